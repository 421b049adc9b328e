import PyProof.Rows.All
import HandS.ForMost
import HandS.Walk
import HandS.IsInst
import HandS.Conv
import HandS.Style
import HandS.Strs
import HandS.SetBool
import HandS.Wide
import HandS.TupAny
import HandS.TupMul
import HandS.TupSets
import PyProof.TupleOfSeq
import PyProof.Rows.EqBoolInt
import PyProof.TwoTypesSub
import HandS.Dict
import HandS.Flt
import KE.KSortedM
import HandS.SetFor
import HandS.More
import KE.GoesMore
import HandS.ExcSuper
import HandS.ExcInit
import HandS.Nested
import KE.KSuper
import HandS.TryMany
import HandS.ExcField
import HandS.ExcIs
import HandS.GenList
import HandS.AnyAll
import HandS.TryOnly
import HandS.Text
import HandS.Ends
import HandS.Words
import HandS.WordsExc
import PySem.Challenge.RW_whoevercomesfirst_k03_times
import HandS.EndOwn
import HandS.NestedK
import KE.RegKSuper
import KE.RegKTryMore
set_option Elab.async false
set_option linter.all false
set_option maxRecDepth 100000
set_option autoImplicit false
namespace Mi
open PySem PySem.Spec L2
abbrev Slots := L2.St

/-- a value of the small language; lst: a list that is never changed again; scr: the script; ref: an object of the store -/
inductive M where
  | non | bl (b : Bool) | int (i : Int) | str (s : Str) | tup (l : List M) | lst (l : List M) | scr (l : List Int) | ref (n : Nat)

/-- an object of the store -/
inductive O where
  | lst (l : List M)
  | dic (l : List (Key × M))

abbrev Store := List O
abbrev Env := List (Option M)

/-- the script's list: as it stood at the start, or a written constant -/
def SqF (K : PySem.W.Frag) (H : Hp) (a : Addr) (xs : List V) : Prop := (∃ o, H a = some (.frz o (.lst xs))) ∨ SqL K (fun _ => none) a xs
theorem SqF.seq {K : PySem.W.Frag} {H : Hp} {a : Addr} {xs : List V} (h : SqF K H a xs) : SqL K H a xs := by
  rcases h with h | (h | ⟨o, h⟩) | h
  · exact .inl (.inr h)
  · cases h
  · cases h
  · exact .inr h
mutual
def Rep (K : PySem.W.Frag) (Z α : List Addr) (H : Hp) : M → V → Prop
  | .non, v => v = .non
  | .bl b, v => v = .bl b
  | .int i, v => v = .int i
  | .str s, v => v = .str s
  | .scr ns, v => ∃ a, v = .ref a ∧ (SqF K H a (ns.map V.int) ∨ (H a = some (.lst (ns.map V.int)) ∧ (a ∉ α ∧ a ∉ Z)))
  | .ref n, v => ∃ a, α[n]? = some a ∧ v = .ref a
  | .tup ms, v => ∃ a xs, v = .ref a ∧ SqT K H a xs ∧ RepL K Z α H ms xs
  | .lst ms, v => ∃ a xs, v = .ref a ∧ H a = some (.lst xs) ∧ (a ∉ α ∧ a ∉ Z) ∧ RepL K Z α H ms xs
def RepL (K : PySem.W.Frag) (Z α : List Addr) (H : Hp) : List M → List V → Prop
  | [], xs => xs = []
  | m :: ms, xs => ∃ x r, xs = x :: r ∧ Rep K Z α H m x ∧ RepL K Z α H ms r
end
/-- the kinds of objects that a store's object may be -/
def MutO : HO → Prop
  | .lst _ => True
  | .dK _ => True
  | .dT _ => True
  | .ins _ _ _ => True
  | _ => False
def ObjR (K : PySem.W.Frag) (Z α : List Addr) (H : Hp) (a : Addr) : O → Prop
  | .lst ms => ∃ xs, H a = some (.lst xs) ∧ RepL K Z α H ms xs
  | .dic l => ∃ kvs : List (Key × V), H a = some (.dK kvs) ∧ kvs.map (·.1) = l.map (·.1) ∧ RepL K Z α H (l.map (·.2)) (kvs.map (·.2))
theorem ObjR.map {K : PySem.W.Frag} {Z α Z' α' : List Addr} {H H' : Hp} {a : Addr} (f : ∀ ms xs, RepL K Z α H ms xs → RepL K Z' α' H' ms xs) (e : H' a = H a) : ∀ {o : O}, ObjR K Z α H a o → ObjR K Z' α' H' a o
  | .lst _, ⟨xs, h, r⟩ => ⟨xs, e.trans h, f _ _ r⟩
  | .dic _, ⟨kvs, h, k, r⟩ => ⟨kvs, e.trans h, k, f _ _ r⟩
/-- the addresses of the defs' tables of code objects -/
class Tabs where
  T : List Addr
def TabG (H : Hp) (P : Addr) : Prop := ∃ ps : Array Value, H P = some (.tbl ps) ∧ TriplesOk ps.toList
/-- it is no table -/
def NoTb : HO → Prop
  | .tbl _ => False
  | _ => True
/-- the store's objects stand in the heap -/
structure SR [Tabs] (K : PySem.W.Frag) (Z α : List Addr) (H : Hp) (S : Store) : Prop where
  nd : α.Nodup
  len : α.length = S.length
  obj : ∀ (n : Nat) (o : O), S[n]? = some o → ∃ a, α[n]? = some a ∧ ObjR K Z α H a o
  zs : ∀ a ∈ Z, a ∉ α ∧ H a ≠ none
  tb : ∀ a ∈ Tabs.T, TabG H a
/-- the names -/
structure ER (K : PySem.W.Frag) (Z α : List Addr) (H : Hp) (γ : Env) (σ : Slots) : Prop where
  len : γ.length = σ.length
  get : ∀ (i : Nat) (m : M), γ[i]? = some (some m) → ∃ v, σ[i]? = some (some v) ∧ Rep K Z α H m v
/-- what was tracked and is no object of the store is as it was; new objects of the store are new -/
structure Tr (α : List Addr) (H : Hp) (α' : List Addr) (H' : Hp) : Prop where
  keep : ∀ a o, H a = some o → a ∉ α → NoTb o → H' a = some o
  tbl : ∀ a ps, H a = some (.tbl ps) → ∃ qs, H' a = some (.tbl qs) ∧ (TriplesOk ps.toList → TriplesOk qs.toList)
  ext : ∃ β, α' = α ++ β ∧ ∀ a ∈ β, H a = none
  live : ∀ a ∈ α', H' a ≠ none

section
variable {K : PySem.W.Frag} {Z α α' α'' : List Addr} {H H' H'' : Hp} {S S' : Store}
variable [Tabs]
def Muts (α : List Addr) (H : Hp) : Prop := ∀ a ∈ α, ∃ o, H a = some o ∧ MutO o
theorem ObjR.mut {a : Addr} {o : O} (h : ObjR K Z α H a o) : ∃ u, H a = some u ∧ MutO u := by
  cases o with
  | lst ms => obtain ⟨xs, e, _⟩ := h; exact ⟨_, e, trivial⟩
  | dic l => obtain ⟨xs, e, _⟩ := h; exact ⟨_, e, trivial⟩
theorem SR.muts (s : SR K Z α H S) : Muts α H := fun a h => by
  obtain ⟨n, hn⟩ := List.mem_iff_getElem?.mp h
  have hl : n < S.length := by rw [← s.len]; exact (List.getElem?_eq_some_iff.mp hn).1
  obtain ⟨a', ha', o⟩ := s.obj n S[n] (by simp [hl])
  rw [hn] at ha'; cases ha'
  exact o.mut
theorem Muts.live (s : Muts α H) : ∀ a ∈ α, H a ≠ none := fun a h => by
  obtain ⟨u, e, _⟩ := s a h
  rw [e]; exact fun z => by cases z
theorem SR.live (s : SR K Z α H S) : ∀ a ∈ α, H a ≠ none := s.muts.live
theorem Tr.refl (s : SR K Z α H S) : Tr α H α H := ⟨fun _ _ h _ _ => h, fun _ ps h => ⟨ps, h, id⟩, ⟨[], by simp, by simp⟩, s.live⟩
omit [Tabs] in
theorem Tr.still {a : Addr} (t : Tr α H α' H') (h : H a ≠ none) (n : a ∉ α) : H' a ≠ none := by
  cases q : H a with
  | none => exact absurd q h
  | some o =>
    by_cases c : NoTb o
    · rw [t.keep a o q n c]; exact fun z => by cases z
    · cases o with
      | tbl ps => obtain ⟨qs, e, _⟩ := t.tbl a ps q; rw [e]; exact fun z => by cases z
      | _ => exact absurd trivial c
omit [Tabs] in
theorem TabG.tr {a : Addr} (t : Tr α H α' H') (h : TabG H a) : TabG H' a := by
  obtain ⟨ps, e, ok⟩ := h
  obtain ⟨qs, e', k⟩ := t.tbl a ps e
  exact ⟨qs, e', k ok⟩
theorem Tr.trans (a : Tr α H α' H') (b : Tr α' H' α'' H'') : Tr α H α'' H'' := by
  obtain ⟨β, e, hβ⟩ := a.ext
  obtain ⟨β', e', hβ'⟩ := b.ext
  refine ⟨fun c o h hc nt => b.keep c o (a.keep c o h hc nt) ?_ nt, fun c ps h => ?_, ⟨β ++ β', by rw [e', e, List.append_assoc], ?_⟩, b.live⟩
  · rw [e]
    intro hm
    rcases List.mem_append.mp hm with z | z
    · exact hc z
    · rw [hβ c z] at h; cases h
  · obtain ⟨qs, h1, k1⟩ := a.tbl c ps h
    obtain ⟨rs, h2, k2⟩ := b.tbl c qs h1
    exact ⟨rs, h2, k2 ∘ k1⟩
  · intro c hc
    rcases List.mem_append.mp hc with z | z
    · exact hβ c z
    · have n := hβ' c z
      cases q : H c with
      | none => rfl
      | some o =>
        by_cases hm : c ∈ α
        · exact absurd n (a.live c (by rw [e]; exact List.mem_append_left _ hm))
        · exact absurd n (a.still (by rw [q]; exact fun z => by cases z) hm)
theorem tup_tr {a : Addr} {xs : List V} (l : Muts α H) (t : Tr α H α' H') (h : H a = some (.tup xs)) : H' a = some (.tup xs) :=
  t.keep _ _ h (fun hm => by obtain ⟨u, e, m⟩ := l a hm; rw [h] at e; cases e; exact m) trivial
theorem frz_tr {a : Addr} {o : Obj} {u : HO} (l : Muts α H) (t : Tr α H α' H') (h : H a = some (.frz o u)) : H' a = some (.frz o u) :=
  t.keep _ _ h (fun hm => by obtain ⟨u, e, m⟩ := l a hm; rw [h] at e; cases e; exact m) trivial
theorem sqT_tr {a : Addr} {xs : List V} (l : Muts α H) (t : Tr α H α' H') (h : SqT K H a xs) : SqT K H' a xs := by
  rcases h with (h | ⟨o, h⟩) | h
  · exact .inl (.inl (tup_tr l t h))
  · exact .inl (.inr ⟨o, frz_tr l t h⟩)
  · exact .inr h
theorem notin_tr {a : Addr} {o : HO} (t : Tr α H α' H') (h : H a = some o) (n : a ∉ α) : a ∉ α' := by
  obtain ⟨β, e, hβ⟩ := t.ext
  rw [e]
  intro hm
  rcases List.mem_append.mp hm with z | z
  · exact n z
  · rw [hβ a z] at h; cases h
theorem get_tr {n : Nat} {a : Addr} (t : Tr α H α' H') (h : α[n]? = some a) : α'[n]? = some a := by
  obtain ⟨β, e, _⟩ := t.ext
  rw [e, List.getElem?_append_left (List.getElem?_eq_some_iff.mp h).1]
  exact h
mutual
theorem Rep.tr (l : Muts α H) (t : Tr α H α' H') : ∀ (m : M) (v : V), Rep K Z α H m v → Rep K Z α' H' m v
  | .non, v, h => by simpa only [Rep] using h
  | .bl b, v, h => by simpa only [Rep] using h
  | .int i, v, h => by simpa only [Rep] using h
  | .str s, v, h => by simpa only [Rep] using h
  | .scr ns, v, h => by
    simp only [Rep] at h ⊢
    obtain ⟨a, e, h⟩ := h
    rcases h with h | ⟨h, n⟩
    · exact ⟨a, e, .inl (h.imp (fun ⟨o, h⟩ => ⟨o, frz_tr l t h⟩) id)⟩
    · exact ⟨a, e, .inr ⟨t.keep _ _ h n.1 trivial, ⟨notin_tr t h n.1, n.2⟩⟩⟩
  | .ref n, v, h => by
    simp only [Rep] at h ⊢
    obtain ⟨a, h, e⟩ := h
    exact ⟨a, get_tr t h, e⟩
  | .tup ms, v, h => by
    simp only [Rep] at h ⊢
    obtain ⟨a, xs, e, h, r⟩ := h
    exact ⟨a, xs, e, sqT_tr l t h, RepL.tr l t ms xs r⟩
  | .lst ms, v, h => by
    simp only [Rep] at h ⊢
    obtain ⟨a, xs, e, h, n, r⟩ := h
    exact ⟨a, xs, e, t.keep _ _ h n.1 trivial, ⟨notin_tr t h n.1, n.2⟩, RepL.tr l t ms xs r⟩
theorem RepL.tr (l : Muts α H) (t : Tr α H α' H') : ∀ (ms : List M) (xs : List V), RepL K Z α H ms xs → RepL K Z α' H' ms xs
  | [], xs, h => by simpa only [RepL] using h
  | m :: ms, xs, h => by
    simp only [RepL] at h ⊢
    obtain ⟨x, r, e, h, q⟩ := h
    exact ⟨x, r, e, Rep.tr l t m x h, RepL.tr l t ms r q⟩
end
theorem ER.tr {γ : Env} {σ : Slots} (l : Muts α H) (t : Tr α H α' H') (e : ER K Z α H γ σ) : ER K Z α' H' γ σ :=
  ⟨e.len, fun i m h => let ⟨v, h1, h2⟩ := e.get i m h; ⟨v, h1, Rep.tr l t m v h2⟩⟩

theorem RepL.length : ∀ {ms : List M} {xs : List V}, RepL K Z α H ms xs → ms.length = xs.length
  | [], xs, h => by simp only [RepL] at h; rw [h]; rfl
  | m :: ms, xs, h => by
    simp only [RepL] at h
    obtain ⟨x, r, rfl, _, q⟩ := h
    simp only [List.length_cons, RepL.length q]
theorem RepL.get : ∀ {ms : List M} {xs : List V} {i : Nat} {m : M}, RepL K Z α H ms xs → ms[i]? = some m → ∃ x, xs[i]? = some x ∧ Rep K Z α H m x
  | [], xs, i, m, h, e => by simp at e
  | m :: ms, xs, i, m', h, e => by
    simp only [RepL] at h
    obtain ⟨x, r, rfl, h1, q⟩ := h
    cases i with
    | zero => simp at e; subst e; exact ⟨x, rfl, h1⟩
    | succ i => simp at e; obtain ⟨y, e1, e2⟩ := RepL.get q e; exact ⟨y, by simpa using e1, e2⟩
theorem RepL.of_get : ∀ {ms : List M} {xs : List V}, ms.length = xs.length → (∀ (i : Nat) m, ms[i]? = some m → ∃ x, xs[i]? = some x ∧ Rep K Z α H m x) → RepL K Z α H ms xs
  | [], [], _, _ => by simp only [RepL]
  | m :: ms, x :: xs, hl, h => by
    simp only [RepL]
    obtain ⟨x', e, r⟩ := h 0 m rfl
    simp at e; subst e
    refine ⟨x, xs, rfl, r, RepL.of_get (by simpa using hl) fun i m' q => ?_⟩
    obtain ⟨y, e1, e2⟩ := h (i + 1) m' (by simpa using q)
    exact ⟨y, by simpa using e1, e2⟩
theorem RepL.append : ∀ {ms ns : List M} {xs ys : List V}, RepL K Z α H ms xs → RepL K Z α H ns ys → RepL K Z α H (ms ++ ns) (xs ++ ys)
  | [], ns, xs, ys, h, q => by simp only [RepL] at h; subst h; exact q
  | m :: ms, ns, xs, ys, h, q => by
    simp only [RepL] at h
    obtain ⟨x, r, rfl, h1, h2⟩ := h
    simp only [List.cons_append, RepL]
    exact ⟨x, r ++ ys, rfl, h1, RepL.append h2 q⟩
theorem RepL.one {m : M} {x : V} (h : Rep K Z α H m x) : RepL K Z α H [m] [x] := by simp only [RepL]; exact ⟨x, [], rfl, h, rfl⟩
theorem RepL.take {ms : List M} {xs : List V} (k : Nat) (h : RepL K Z α H ms xs) : RepL K Z α H (ms.take k) (xs.take k) := by
  refine RepL.of_get (by simp [h.length]) fun i m e => ?_
  rw [List.getElem?_take] at e ⊢
  split at e
  · rw [if_pos (by assumption)]; exact h.get e
  · cases e
theorem RepL.drop {ms : List M} {xs : List V} (k : Nat) (h : RepL K Z α H ms xs) : RepL K Z α H (ms.drop k) (xs.drop k) := by
  refine RepL.of_get (by simp [h.length]) fun i m e => ?_
  rw [List.getElem?_drop] at e ⊢
  exact h.get e
theorem RepL.reverse {ms : List M} {xs : List V} (h : RepL K Z α H ms xs) : RepL K Z α H ms.reverse xs.reverse := by
  have hl := h.length
  refine RepL.of_get (by simp [hl]) fun i m e => ?_
  have hi : i < ms.length := by
    have := (List.getElem?_eq_some_iff.mp e).1
    simpa using this
  rw [List.getElem?_reverse hi] at e
  rw [List.getElem?_reverse (by omega), ← hl]
  exact h.get e
theorem RepL.set {ms : List M} {xs : List V} {m : M} {x : V} (j : Nat) (h : RepL K Z α H ms xs) (r : Rep K Z α H m x) : RepL K Z α H (ms.set j m) (xs.set j x) := by
  refine RepL.of_get (by simp [h.length]) fun i m' e => ?_
  rw [List.getElem?_set] at e ⊢
  split at e
  · rename_i hj
    subst hj
    split at e
    · rename_i hlt
      cases e
      rw [if_pos rfl, if_pos (by rw [← h.length]; exact hlt)]
      exact ⟨x, rfl, r⟩
    · cases e
  · rename_i hj
    rw [if_neg hj]
    exact h.get e
theorem RepL.dropLast {ms : List M} {xs : List V} (h : RepL K Z α H ms xs) : RepL K Z α H ms.dropLast xs.dropLast := by
  rw [List.dropLast_eq_take, List.dropLast_eq_take, ← h.length]
  exact h.take _
theorem RepL.ints : ∀ {ns : List Int} {xs : List V}, RepL K Z α H (ns.map M.int) xs → xs = ns.map V.int
  | [], xs, h => by simpa only [List.map_nil, RepL] using h
  | n :: ns, xs, h => by
    simp only [List.map_cons, RepL, Rep] at h
    obtain ⟨x, r, rfl, rfl, q⟩ := h
    rw [RepL.ints q]; rfl
theorem RepL.of_ints : ∀ (ns : List Int), RepL K Z α H (ns.map M.int) (ns.map V.int)
  | [] => by simp only [List.map_nil, RepL]
  | n :: ns => by simp only [List.map_cons, RepL, Rep]; exact ⟨_, _, rfl, rfl, RepL.of_ints ns⟩

omit [Tabs] in
/-- the readable items of a value -/
def seqOf (S : Store) : M → Option (List M)
  | .tup ms => some ms
  | .lst ms => some ms
  | .scr ns => some (ns.map M.int)
  | .ref n => match S[n]? with
    | some (.lst ms) => some ms
    | _ => none
  | _ => none
/-- .. in the heap: a list (of whatever form) or a tuple -/
theorem seq_rep {m : M} {v : V} {ms : List M} (s : SR K Z α H S) (h : Rep K Z α H m v) (e : seqOf S m = some ms) :
    ∃ a xs, v = .ref a ∧ ((SqL K H a xs ∧ (∀ l, m ≠ .tup l)) ∨ (SqT K H a xs ∧ m = .tup ms)) ∧ RepL K Z α H ms xs := by
  cases m with
  | tup l =>
    simp only [seqOf, Option.some.injEq] at e; subst e
    simp only [Rep] at h
    obtain ⟨a, xs, rfl, h, r⟩ := h
    exact ⟨a, xs, rfl, .inr ⟨h, rfl⟩, r⟩
  | lst l =>
    simp only [seqOf, Option.some.injEq] at e; subst e
    simp only [Rep] at h
    obtain ⟨a, xs, rfl, h, _, r⟩ := h
    exact ⟨a, xs, rfl, .inl ⟨.of h, by simp⟩, r⟩
  | scr ns =>
    simp only [seqOf, Option.some.injEq] at e; subst e
    simp only [Rep] at h
    obtain ⟨a, rfl, h⟩ := h
    exact ⟨a, _, rfl, .inl ⟨h.elim (fun h => h.seq) fun h => .of h.1, by simp⟩, RepL.of_ints ns⟩
  | ref n =>
    simp only [seqOf] at e
    simp only [Rep] at h
    obtain ⟨a, ha, rfl⟩ := h
    cases q : S[n]? with
    | none => rw [q] at e; cases e
    | some o =>
      rw [q] at e
      obtain ⟨a', ha', ob⟩ := s.obj n o q
      rw [ha] at ha'; cases ha'
      cases o with
      | lst l =>
        cases e
        obtain ⟨xs, hx, r⟩ := ob
        exact ⟨a, xs, rfl, .inl ⟨.of hx, by simp⟩, r⟩
      | dic l => cases e
  | non => simp [seqOf] at e
  | bl b => simp [seqOf] at e
  | int b => simp [seqOf] at e
  | str b => simp [seqOf] at e
end
end Mi

namespace Mi
open PySem PySem.Spec L2 PyProof.Rows
theorem perm_lift {τ σ : Type} {f : τ → σ} {xs ys : List σ} (h : xs.Perm ys) : ∀ l : List τ, ys = l.map f → ∃ l' : List τ, l'.Perm l ∧ xs = l'.map f := by
  induction h with
  | nil =>
    intro l e
    cases l with
    | nil => exact ⟨[], List.Perm.refl _, rfl⟩
    | cons a l => cases e
  | cons x h ih =>
    intro l e
    cases l with
    | nil => cases e
    | cons b l =>
      obtain ⟨e1, e2⟩ := List.cons.inj e
      obtain ⟨l', p, q⟩ := ih l e2
      exact ⟨b :: l', p.cons b, by rw [List.map_cons, ← q, e1]⟩
  | swap x y l0 =>
    intro l e
    cases l with
    | nil => cases e
    | cons a l =>
      cases l with
      | nil => cases e
      | cons b l =>
        obtain ⟨e1, e2⟩ := List.cons.inj e
        obtain ⟨e3, e4⟩ := List.cons.inj e2
        exact ⟨b :: a :: l, List.Perm.swap _ _ _, by rw [List.map_cons, List.map_cons, ← e1, ← e3, ← e4]⟩
  | trans h1 h2 ih1 ih2 =>
    intro l e
    obtain ⟨l2, p2, e2⟩ := ih2 l e
    obtain ⟨l3, p3, e3⟩ := ih1 l2 e2
    exact ⟨l3, p3.trans p2, e3⟩
section
variable {prog : Program} {w : World} {A : Around} {E : Value → Shared → Prop} {s : Shared}
theorem sortT_raw {l : Addr} {T : String} {o : Obj} {vs : List Value} {n d : Nat} {B : Int} {Q : Value → Shared → Prop} (hT : T = "list" ∨ T = "tuple") (ho : s.heap.get? l = some o) (hc : o.cls = .type T) (hdt : o.data = .seq vs.toArray n)
    (h64 : vs.length < 64) (hd : 1 ≤ d) (x : TS.TupsOk s.heap d B vs)
    (h : ∀ (h1 h' : Heap) (p : Addr) (out : Array Value) (c : Nat), (∀ b u, s.heap.get? b = some u → h1.get? b = some u) → (∀ b u, h1.get? b = some u → h'.get? b = some u) → h1.objs.size ≤ p → h'.get? p = some (seqObj "list" out c) → out.toList.Perm vs →
      out.toList.Pairwise (fun u v => TS.code B (TS.intsOf s.heap u) ≤ TS.code B (TS.intsOf s.heap v)) → Q (.ref p) { s with heap := h' }) :
    wpAny (model prog w) A (call (.builtin "sorted") [.ref l]) Q E s := by
  refine Calls.call_function_entry kind_sorted plain_sorted entry_sorted (args_sorted1 _) ?_
  unfold Builtin.«sorted»
  refine wpAny_bind (m := checkCount "sorted" 1 1 _) (wpAny_pure ?_)
  refine wpAny_bind (wpAny_collect_seq l hT ho hc hdt (fun h1 k1 => wpAny_bind (wpAny_newList ?_ (by rw [sizeLine_eq]; simp; omega))) (by rw [sizeLine_eq, List.size_toArray]; omega))
  have hoL : (h1.push (seqObj "list" vs.toArray 0)).get? h1.objs.size = some (seqObj "list" vs.toArray 0) := Heap.get?_push_size _ rfl
  have keep : ∀ b u, s.heap.get? b = some u → (h1.push (seqObj "list" vs.toArray 0)).get? b = some u := fun b u e => Heap.get?_push_of_some _ (k1 b u e)
  have x' : TS.TupsOk (h1.push (seqObj "list" vs.toArray 0)) d B vs := x.keeps fun b u e _ => keep b u e
  refine wpAny_bind (wpAny_holding (TS.call_sort_tups (s := { s with heap := h1.push (seqObj "list" vs.toArray 0) }) hoL h64 hd x' fun out a1 a2 => ?_))
  obtain ⟨c, hc'⟩ := sortedHeap_at (vs := vs) (out := out) hoL
  refine wpAny_pure ⟨_, rfl, h h1 _ h1.objs.size out c k1 (fun b u q => ?_) (Nat.le_refl _) hc' a1 ?_⟩
  · have hlt := Heap.lt_size q
    show (sortedHeap (h1.push (seqObj "list" vs.toArray 0)) h1.objs.size vs out).get? b = some u
    rw [sortedHeap_old (Nat.ne_of_lt hlt) (by rw [size_push']; exact Nat.lt_succ_of_lt hlt)]
    exact Heap.get?_push_of_some _ q
  · refine List.Pairwise.imp_of_mem (fun {u v} hu hv hle => ?_) a2
    obtain ⟨n1, t1, _⟩ := x u (a1.mem_iff.mp hu)
    obtain ⟨n2, t2, _⟩ := x v (a1.mem_iff.mp hv)
    have f1 : TS.intsOf (h1.push (seqObj "list" vs.toArray 0)) u = n1 := (t1.keeps fun b o e _ => keep b o e).ints
    have f2 : TS.intsOf (h1.push (seqObj "list" vs.toArray 0)) v = n2 := (t2.keeps fun b o e _ => keep b o e).ints
    rw [t1.ints, t2.ints, ← f1, ← f2]
    exact hle
end
section
variable {X : Cx}
/-- sorted(xs), tuples of d ints in [0, B) -/
def rSTup (K : PySem.W.Frag) : List V → Hp → VK → Prop := fun vs H Q => ∃ (a : Addr) (L : List (Addr × List Int)) (d : Nat) (B : Int), vs = [V.ref a] ∧ (SqL K H a (L.map fun p => V.ref p.1) ∨ SqT K H a (L.map fun p => V.ref p.1)) ∧
  (∀ p ∈ L, SqT K H p.1 (p.2.map V.int)) ∧ L.length < 64 ∧ 1 ≤ d ∧ (∀ p ∈ L, p.2.length = d ∧ TS.Bd B p.2) ∧
  ∀ (L' : List (Addr × List Int)) (p : Addr), L'.Perm L → L'.Pairwise (fun q r => TS.code B q.2 ≤ TS.code B r.2) → H p = none → Q (.ref p) (upd H p (.lst (L'.map fun q => V.ref q.1)))
theorem cr_sTup : CallR X (.builtin "sorted") (rSTup X.K) := by
  intro pins s σ H vs us Q I r h
  obtain ⟨a, L, d, B, rfl, ha, hk, h64, hd, hB, q⟩ := h
  rw [Vals.ref1 r]
  have tk : ∀ p ∈ L, TS.TupInts s.heap (.ref p.1) p.2 := fun p hp => tupInts_of (I.isT (hk p hp))
  have fin : ∀ {T : String} {o : Obj} {its : List Value} {n : Nat}, (T = "list" ∨ T = "tuple") → s.heap.get? a = some o → o.cls = .type T → o.data = .seq its.toArray n → Vals (L.map fun p => V.ref p.1) its → wpAny (model X.prog X.w) X.A (call (.builtin "sorted") [.ref a]) (EP X pins σ Q) X.xe s := by
    intro T o its n hT ho hc hdt rv
    have ei := refs_of_vals rv
    subst ei
    refine sortT_raw (B := B) hT ho hc hdt (by simpa using h64) hd (fun v hv => ?_) fun h1 h' p out c k1 kp hp hg pm pw => ?_
    · obtain ⟨p, hp, rfl⟩ := List.mem_map.mp hv
      exact ⟨p.2, tk p hp, hB p hp⟩
    · obtain ⟨L', pL, eL⟩ := perm_lift pm L rfl
      have I1 : L2.Inv X pins σ H { s with heap := h1 } := I.kept (t' := s.toks) k1
      refine ⟨.ref p, _, I1.laid (t' := s.toks) kp hp (show ObjOk X.prog X.w _ h' _ (.lst (L'.map fun q => V.ref q.1)) from ⟨?_, out.toList, c, by rw [eL]; exact vals_of_refs L', hg⟩), rfl, q L' p pL ?_ (I1.hok.fresh hp)⟩
      · rw [List.length_map, pL.length_eq, sizeLine_eq]; omega
      · rw [eL] at pw
        refine List.Pairwise.imp_of_mem (fun {u v} hu hv hle => ?_) (List.pairwise_map.mp pw)
        have f1 := (tk u (pL.mem_iff.mp hu)).ints
        have f2 := (tk v (pL.mem_iff.mp hv)).ints
        rw [← f1, ← f2]
        exact hle
  rcases ha with ha | ha
  · obtain ⟨its, r', pl, hz⟩ := I.list ha
    obtain ⟨o, ho, hc, n, hdt⟩ := pl.isList
    exact fin (.inl rfl) ho hc hdt r'
  · obtain ⟨its, r', pl, hz⟩ := I.tuple ha
    obtain ⟨o, ho, hc, n, hdt⟩ := pl
    exact fin (.inr rfl) ho hc hdt r'
end
section
variable {prog : Program} {w : World} {A : Around} {E : Value → Shared → Prop} {s : Shared}
theorem sortI_raw {l : Addr} {T : String} {o : Obj} {vs : List Value} {ns : List Int} {n : Nat} {Q : Value → Shared → Prop} (hT : T = "list" ∨ T = "tuple") (ho : s.heap.get? l = some o) (hc : o.cls = .type T) (hdt : o.data = .seq vs.toArray n) (hI : IntsAre vs ns) (h64 : vs.length < 64)
    (h : ∀ (h1 h' : Heap) (p : Addr) (out : Array Value) (c : Nat) (ns' : List Int), (∀ b u, s.heap.get? b = some u → h1.get? b = some u) → (∀ b u, h1.get? b = some u → h'.get? b = some u) → h1.objs.size ≤ p → h'.get? p = some (seqObj "list" out c) → IntsAre out.toList ns' → ns'.Perm ns → ns'.Pairwise (· ≤ ·) → Q (.ref p) { s with heap := h' }) :
    wpAny (model prog w) A (call (.builtin "sorted") [.ref l]) Q E s := by
  refine Calls.call_function_entry kind_sorted plain_sorted entry_sorted (args_sorted1 _) ?_
  unfold Builtin.«sorted»
  refine wpAny_bind (m := checkCount "sorted" 1 1 _) (wpAny_pure ?_)
  refine wpAny_bind (wpAny_collect_seq l hT ho hc hdt (fun h1 k1 => wpAny_bind (wpAny_newList ?_ (by rw [sizeLine_eq]; simp; omega))) (by rw [sizeLine_eq, List.size_toArray]; omega))
  have hoL : (h1.push (seqObj "list" vs.toArray 0)).get? h1.objs.size = some (seqObj "list" vs.toArray 0) := Heap.get?_push_size _ rfl
  refine wpAny_bind (wpAny_holding (wpAny_call_entry slot_list_sort ⟨_, hoL, rfl⟩ entry_list_sort (list_sort_tree hoL hI h64 fun out ns' a1 a2 a3 => ⟨_, rfl, ?_⟩) (args_list_sort _)))
  obtain ⟨c, hc'⟩ := sortedHeap_at (vs := vs) (out := out) hoL
  refine wpAny_pure ⟨_, rfl, h h1 _ h1.objs.size out c ns' k1 (fun b u q => ?_) (Nat.le_refl _) hc' a1 a2 a3⟩
  have hlt := Heap.lt_size q
  show (sortedHeap (h1.push (seqObj "list" vs.toArray 0)) h1.objs.size vs out).get? b = some u
  rw [sortedHeap_old (Nat.ne_of_lt hlt) (by rw [size_push']; exact Nat.lt_succ_of_lt hlt)]
  exact Heap.get?_push_of_some _ q
end
section
variable {X : Cx}
/-- sorted(xs), a tuple of ints -/
def rSIntT (K : PySem.W.Frag) : List V → Hp → VK → Prop := fun vs H Q => ∃ (a : Addr) (ns : List Int), vs = [V.ref a] ∧ SqT K H a (ns.map V.int) ∧ ns.length < 64 ∧
  ∀ (ns' : List Int) (p : Addr), ns'.Perm ns → ns'.Pairwise (· ≤ ·) → H p = none → Q (.ref p) (upd H p (.lst (ns'.map V.int)))
theorem cr_sIntT : CallR X (.builtin "sorted") (rSIntT X.K) := by
  intro pins s σ H vs us Q I r h
  obtain ⟨a, ns, rfl, ha, h64, q⟩ := h
  rw [Vals.ref1 r]
  obtain ⟨its, rv, pl, hz⟩ := I.tuple ha
  obtain ⟨o, ho, hc, n, hdt⟩ := pl
  have hi := rv.ints
  refine sortI_raw (.inr rfl) ho hc hdt hi (by rw [hi.length]; exact h64) fun h1 h' p out c ns' k1 kp hp hg a1 a2 a3 => ?_
  have I1 : L2.Inv X pins σ H { s with heap := h1 } := I.kept (t' := s.toks) k1
  refine ⟨.ref p, _, I1.laid (t' := s.toks) kp hp (show ObjOk X.prog X.w _ h' _ (.lst (ns'.map V.int)) from ⟨?_, out.toList, c, vals_of_ints a1, hg⟩), rfl, q ns' p a2 a3 (I1.hok.fresh hp)⟩
  rw [List.length_map, a2.length_eq, sizeLine_eq]; omega
end
end Mi

namespace Mi
open PySem PySem.Spec L2 PyProof.Rows
theorem tuple_mul1 (l : Addr) (items : Array Value) (n : Nat) (dd : Option Addr) (sl : Array (Option Value)) (u : Tok) :
    Meets (Builtin.«tuple.__mul__» ⟨[.ref l, .int 1 u], []⟩) (fun _ R s => s.heap.get? l = some { cls := .type "tuple", dict := dd, data := .seq items n, slots := sl } ∧
      R (.ok (.ret (Value.ref l))) s) :=
  .of_wp fun prog w A R s h => by
    obtain ⟨hp, g, d, tk, os⟩ := s
    obtain ⟨hl, h⟩ := h
    have f1 := AutoSeq1.idx_int
    have c0 : (decide ((1 : Int) < -(2 ^ 63)) || decide ((1 : Int) ≥ 2 ^ 63)) = false := by decide
    have c1 : (items.isEmpty || (1 : Int) == 1) = true := by simp
    wp_walk using wpAny_loadPart' hl
    repeat (first
      | (refine wpAny_ite_false (decide_eq_false (by rw [c0]; exact Bool.false_ne_true)) ?_; wp_walk using wpAny_loadPart' hl)
      | (refine wpAny_ite_true (decide_eq_true c1) ?_; wp_walk using wpAny_loadPart' hl))
    exact ⟨_, rfl, h⟩
def rRepT1 (K : PySem.W.Frag) : R2 := fun x y H Q => ∃ l xs, x = V.ref l ∧ y = V.int 1 ∧ SqT K H l xs ∧ Q (.ref l) H
section
variable {X : Cx}
theorem op_repT1 : OpR X (binaryOp .Mult) (rRepT1 X.K) := by
  intro pins s σ H x y v u Q I rx ry h
  obtain ⟨l, xs, rfl, rfl, hT, q⟩ := h
  cases rx
  obtain ⟨t, rfl⟩ := ry
  obtain ⟨its, r, ⟨⟨cls, dd, data, sl⟩, ho, hc, n, hd⟩, hs⟩ := I.tuple hT
  simp only at hc hd
  subst hc hd
  refine wpAny_binaryOp_repeat_ref (T := "tuple") (U := "int") (by decide) ⟨_, ho, rfl⟩ (fun s' => typeIs_int s' 1 t) noFill_tuple_mul F.fills_int_mul F.slot_int_rmul repeat_tuple F.slot_int_index.lookup
    (call_meets F.slot_int_rmul (typeIs_int s 1 t) F.entry_int_rmul (F.args_int_rmul_2 _ _) (int_rmul_tuple 1 t l its.toArray n dd sl)
      ⟨ho, rfl, ⟨_, ho, rfl⟩, call_meets F.slot_tuple_mul ⟨_, ho, rfl⟩ F.entry_tuple_mul (F.args_tuple_mul_2 _ _) (tuple_mul1 l its.toArray n dd sl t) ⟨ho, ?_⟩⟩)
  exact ⟨.ref l, H, I, rfl, q⟩
end
end Mi

namespace Mi
open PySem PySem.Spec L2 PyProof.Rows
/-! ### truth values as numbers: b + i, b - i, b == i -/
def b2z (b : Bool) : Int := if b = true then 1 else 0
theorem int_sub_bool_int (a : Bool) (b : Int) (u : Tok) : Gives (Builtin.«int.__sub__» ⟨[.bool a, .int b u], []⟩) (.int ((if a = true then (1 : Int) else 0) - b)) :=
  .of_wp fun M A E s Q h => by obtain ⟨hp, g, d, tk, os⟩ := s; wp_walk; exact ⟨_, rfl, h⟩
theorem int_add_bool_int (a : Bool) (b : Int) (u : Tok) : Gives (Builtin.«int.__add__» ⟨[.bool a, .int b u], []⟩) (.int ((if a = true then (1 : Int) else 0) + b)) :=
  .of_wp fun M A E s Q h => by obtain ⟨hp, g, d, tk, os⟩ := s; wp_walk; exact ⟨_, rfl, h⟩
def rBI (g : Int → Int → Int) : R2 := fun x y H Q => ∃ k i, x = V.bl k ∧ y = V.int i ∧ Q (.int (g (b2z k) i)) H
section
variable {X : Cx}
theorem op_sub_bi : OpR X (binaryOp .Sub) (rBI fun i j => i - j) := by
  intro pins s σ H x y v u Q I rx ry h
  obtain ⟨k, i, rfl, rfl, q⟩ := h
  cases rx
  obtain ⟨t, rfl⟩ := ry
  exact binaryOp_left_gives (op := .Sub) (T := "bool") (U := "int") (by decide) rfl (fun s' => typeIs_int s' i t) F.fills_bool_sub F.fills_int_sub F.sub_int_bool F.slot_bool_sub F.slot_int_rsub F.entry_int_sub (F.args_int_sub_2 _ _)
    (int_sub_bool_int k i t) trivial ⟨.int (b2z k - i), H, I.tok _, ⟨_, rfl⟩, q⟩
theorem op_add_bi : OpR X (binaryOp .Add) (rBI fun i j => i + j) := by
  intro pins s σ H x y v u Q I rx ry h
  obtain ⟨k, i, rfl, rfl, q⟩ := h
  cases rx
  obtain ⟨t, rfl⟩ := ry
  exact binaryOp_left_gives (op := .Add) (T := "bool") (U := "int") (by decide) rfl (fun s' => typeIs_int s' i t) F.fills_bool_add F.fills_int_add F.sub_int_bool F.slot_bool_add F.slot_int_radd F.entry_int_add (F.args_int_add_2 _ _)
    (int_add_bool_int k i t) trivial ⟨.int (b2z k + i), H, I.tok _, ⟨_, rfl⟩, q⟩
def rEqBI (neg : Bool) : R2 := fun x y H Q => ∃ k i, ((x = V.bl k ∧ y = V.int i) ∨ (x = V.int i ∧ y = V.bl k)) ∧ Q (.bl (if neg = true then !(b2z k == i) else (b2z k == i))) H
theorem op_eq_bi : OpR X (compareOp .Eq) (rEqBI false) := by
  intro pins s σ H x y v u Q I rx ry h
  obtain ⟨k, i, ⟨rfl, rfl⟩ | ⟨rfl, rfl⟩, q⟩ := h
  · cases rx
    obtain ⟨t, rfl⟩ := ry
    exact EqBoolInt.eq_bool_int (fin_bl I q rfl)
  · cases ry
    obtain ⟨t, rfl⟩ := rx
    exact EqBoolInt.eq_int_bool (fin_bl I q (show (b2z k == i) = (i == b2z k) from BEq.comm))
theorem op_ne_bi : OpR X (compareOp .NotEq) (rEqBI true) := by
  intro pins s σ H x y v u Q I rx ry h
  obtain ⟨k, i, ⟨rfl, rfl⟩ | ⟨rfl, rfl⟩, q⟩ := h
  · cases rx
    obtain ⟨t, rfl⟩ := ry
    exact EqBoolInt.ne_bool_int (fin_bl I q rfl)
  · cases ry
    obtain ⟨t, rfl⟩ := rx
    exact EqBoolInt.ne_int_bool (fin_bl I q (show (!(b2z k == i)) = (!(i == b2z k)) by rw [show (b2z k == i) = (i == b2z k) from BEq.comm]))
end
end Mi

namespace Mi
open PySem PySem.Spec L2

/-- an own exception: its class, its fields -/
structure Ex where
  cls : String
  fs : List (String × M)
inductive R (τ : Type) where
  | ok (a : τ) (S : Store)
  | exc (x : Ex) (S : Store)
  | bad
def R.bind {τ υ : Type} (r : R τ) (f : τ → Store → R υ) : R υ := match r with
  | .ok a S => f a S
  | .exc x S => .exc x S
  | .bad => .bad
@[simp] theorem R.bind_ok {τ υ : Type} (a : τ) (S : Store) (f : τ → Store → R υ) : (R.ok a S).bind f = f a S := rfl
@[simp] theorem R.bind_exc {τ υ : Type} (x : Ex) (S : Store) (f : τ → Store → R υ) : (R.exc x S).bind f = .exc x S := rfl
@[simp] theorem R.bind_bad {τ υ : Type} (f : τ → Store → R υ) : (R.bad : R τ).bind f = .bad := rfl
/-- under a condition -/
def R.when {τ : Type} (c : Prop) [Decidable c] (r : R τ) : R τ := if c then r else .bad
@[simp] theorem R.when_true {τ : Type} {c : Prop} [Decidable c] (h : c) (r : R τ) : R.when c r = r := if_pos h
def R.of {τ υ : Type} (o : Option τ) (f : τ → R υ) : R υ := match o with
  | some a => f a
  | none => .bad
@[simp] theorem R.of_some {τ υ : Type} (a : τ) (f : τ → R υ) : R.of (some a) f = f a := rfl
@[simp] theorem R.of_none {τ υ : Type} (f : τ → R υ) : R.of none f = .bad := rfl

mutual
def M.beq : M → M → Bool
  | .non, .non => true
  | .bl a, .bl b => a == b
  | .int a, .int b => a == b
  | .str a, .str b => decide (a = b)
  | .scr a, .scr b => decide (a = b)
  | .ref a, .ref b => a == b
  | .tup a, .tup b => M.beqs a b
  | .lst a, .lst b => M.beqs a b
  | _, _ => false
def M.beqs : List M → List M → Bool
  | [], [] => true
  | a :: r, b :: s => M.beq a b && M.beqs r s
  | _, _ => false
end
mutual
theorem M.eq_of_beq : ∀ (a b : M), M.beq a b = true → a = b
  | .non, b, h => by cases b <;> simp_all [M.beq]
  | .bl a, b, h => by cases b <;> simp_all [M.beq]
  | .int a, b, h => by cases b <;> simp_all [M.beq]
  | .str a, b, h => by cases b <;> simp_all [M.beq]
  | .scr a, b, h => by cases b <;> simp_all [M.beq]
  | .ref a, b, h => by cases b <;> simp_all [M.beq]
  | .tup a, b, h => by
    cases b <;> simp only [M.beq, Bool.false_eq_true] at h
    rw [M.eqs_of_beqs _ _ h]
  | .lst a, b, h => by
    cases b <;> simp only [M.beq, Bool.false_eq_true] at h
    rw [M.eqs_of_beqs _ _ h]
theorem M.eqs_of_beqs : ∀ (a b : List M), M.beqs a b = true → a = b
  | [], b, h => by cases b <;> simp_all [M.beqs]
  | a :: r, b, h => by
    cases b with
    | nil => simp [M.beqs] at h
    | cons b s =>
      simp only [M.beqs, Bool.and_eq_true] at h
      rw [M.eq_of_beq a b h.1, M.eqs_of_beqs r s h.2]
end
mutual
theorem M.beq_refl : ∀ (a : M), M.beq a a = true
  | .non => rfl
  | .bl a => by simp [M.beq]
  | .int a => by simp [M.beq]
  | .str a => by simp [M.beq]
  | .scr a => by simp [M.beq]
  | .ref a => by simp [M.beq]
  | .tup a => by simp only [M.beq]; exact M.beqs_refl a
  | .lst a => by simp only [M.beq]; exact M.beqs_refl a
theorem M.beqs_refl : ∀ (a : List M), M.beqs a a = true
  | [] => rfl
  | a :: r => by simp only [M.beqs, Bool.and_eq_true]; exact ⟨M.beq_refl a, M.beqs_refl r⟩
end
instance : DecidableEq M := fun a b => if h : M.beq a b = true then isTrue (M.eq_of_beq a b h) else isFalse fun e => h (e ▸ M.beq_refl a)

inductive Kon where
  | non | bl (b : Bool) | int (i : Int) | str (s : String)
  deriving DecidableEq
def Kon.v : Kon → V
  | .non => .non
  | .bl b => .bl b
  | .int i => .int i
  | .str s => .str (Str.ofString s)
def Kon.m : Kon → M
  | .non => .non
  | .bl b => .bl b
  | .int i => .int i
  | .str s => .str (Str.ofString s)

/-- what an except suite hands back: constants, fields of the caught exception -/
inductive Sa where
  | con (k : Kon)
  | fld (f : String)
inductive Sr where
  | one (a : Sa)
  | tup (l : List Sa)
/-- a clause: its class, the slot of its name, what is returned -/
structure Cz where
  cls : String
  nm : Option Nat
  r : Sr
  is : Option (String × Bool) := none
inductive Bop where | add | sub | mul | mod | fdiv | pow | shl
  deriving DecidableEq
inductive Cop where | eq | ne | lt | le | gt | ge | isN | notN | isin | notin
  deriving DecidableEq
/-- built-in calls by value; al: the new list is an object of the store -/
inductive Bi where | abs | max | min | int | len | sum | list (al : Bool) | tuple | sorted (al : Bool) | maxL | minL | str | dict
  deriving DecidableEq
inductive Me where | append | pop | extend | insert | remove
  deriving DecidableEq
/-- a target -/
inductive Tg where | nm (i : Nat) | tu (l : List Nat)

mutual
inductive C where
  | var (i : Nat)
  | con (k : Kon)
  | tup (es : Cs)
  | lst (al : Bool) (es : Cs)
  | bin (al : Bool) (o : Bop) (a b : C)
  | neg (a : C)
  | cmp (o : Cop) (a b : C)
  | chain (o o' : Cop) (a b c : C)
  | and (a b : C)
  | or (a b : C)
  | one (a : C)
  | not (a : C)
  | ife (t : T) (a b : C)
  | ix (a i : C)
  | sl (al : Bool) (a : C) (lo hi : Co)
  | rev (al : Bool) (a : C)
  | call (pu : Bool) (f : String) (es : Cs)
  | callk (pu : Bool) (f : String) (es : Cs) (qs : List Nat) (kes : Cs)
  | bi (b : Bi) (es : Cs)
  | lrange (al : Bool) (es : Cs)
  | trange (es : Cs)
  | isi (a : C) (ts : List String)
  | meth (m : Me) (o : C) (es : Cs)
  | lc (al : Bool) (tg : Tg) (it : It') (ifs : To) (e : C) (own : List Nat)
  | ssc (al : Bool) (tg : Tg) (it : It') (ifs : To) (e : C) (own : List Nat)
  | cst (s : String) (i : Int)
  | cstS (s t : String)
  | six (a i : C)
  | ssl (a : C) (lo hi : Co)
  | sin (neg : Bool) (a b : C)
  | deq (neg : Bool) (a b : C)
  | join (o a : C)
  | split (al : Bool) (o a : C)
  | chain3 (o o' o'' : Cop) (a b c d : C)
  | anyg (neg : Bool) (tg : Tg) (it : It') (ifs : To) (e : C) (own : List Nat)
  | dct (ks : List String) (es : Cs)
  | lc2 (al : Bool) (tg : Tg) (it : It') (tg2 : Tg) (it2 : It') (ifs : To) (e : C) (own own2 : List Nat)
inductive Cs where
  | nil
  | cons (a : C) (r : Cs)
inductive Co where
  | no
  | so (a : C)
inductive T where
  | v (a : C)
  | and (a b : T)
  | or (a b : T)
  | one (a : T)
  | not (a : T)
inductive To where
  | no
  | so (t : T)
inductive It' where
  | val (a : C)
  | range1 (a : C)
  | range2 (a b : C)
  | enum (a : C)
  | sgn (a : C)
end
mutual
inductive Sm where
  | set (i : Nat) (e : C)
  | unp (l : List Nat) (e : C)
  | par (l : List Nat) (es : Cs)
  | seti (o i e : C)
  | augi (o : Bop) (a i e : C)
  | aug (o : Bop) (i : Nat) (e : C)
  | exp (e : C)
  | ret (e : C)
  | retN
  | ife (t : T) (a b : Sms)
  | for_ (tg : Tg) (it : It') (b : Sms)
  | while_ (t : T) (b : Sms)
  | brk
  | cnt
  | pass
  | raise (c : String) (fs : List String) (es : Cs)
  | try_ (ks : List String) (b : Sms) (hs : List Cz)
  | swp (o i p j a b : C)
inductive Sms where
  | nil
  | cons (a : Sm) (r : Sms)
end

/-! ### operations by values -/
def mkL (al : Bool) (ms : List M) (S : Store) : R M := if al = true then .ok (.ref S.length) (S ++ [.lst ms]) else .ok (.lst ms) S
def big : Nat := 1000000
def CMulOk (i j : Int) : Prop := (i.natAbs < 2 ^ 64 ∨ j.natAbs < 2 ^ 64) ∨ (i.natAbs < 2 ^ 4096 ∧ j.natAbs < 2 ^ 4096)
instance (i j : Int) : Decidable (CMulOk i j) := by unfold CMulOk; infer_instance
def CDivOk (i j : Int) : Prop := 0 < j ∧ j.natAbs < 2 ^ 4096
instance (i j : Int) : Decidable (CDivOk i j) := by unfold CDivOk; infer_instance
/-- a list that may be copied from: its items -/
def lstOf (S : Store) : M → Option (List M)
  | .lst ms => some ms
  | .ref n => match S[n]? with
    | some (.lst ms) => some ms
    | _ => none
  | _ => none
def binop (al : Bool) (o : Bop) (a b : M) (S : Store) : R M := match o, a, b with
  | .add, .int i, .int j => .ok (.int (i + j)) S
  | .sub, .int i, .int j => .ok (.int (i - j)) S
  | .sub, .bl a, .int j => .ok (.int (b2z a - j)) S
  | .add, .bl a, .int j => .ok (.int (b2z a + j)) S
  | .mul, .int i, .int j => .when (CMulOk i j) (.ok (.int (i * j)) S)
  | .mod, .int i, .int j => .when (0 < j) (.ok (.int (i % j)) S)
  | .fdiv, .int i, .int j => .when (CDivOk i j) (.ok (.int (i / j)) S)
  | .pow, .int i, .int j => .when (0 ≤ j ∧ j.natAbs ≤ 1000000 ∧ i.natAbs < 2 ^ 64) (.ok (.int (i ^ j.toNat)) S)
  | .shl, .int i, .int j => .when (0 ≤ j ∧ j.natAbs ≤ 1000000 ∧ i.natAbs < 2 ^ 64) (.ok (.int (i * 2 ^ j.toNat)) S)
  | .add, .str x, .str y => .when (x.length + y.length ≤ big) (.ok (.str (x ++ y)) S)
  | .add, .tup xs, .tup ys => .when (xs.length + ys.length ≤ big) (.ok (.tup (xs ++ ys)) S)
  | .add, x, y => .of (lstOf S x) fun xs => .of (lstOf S y) fun ys => .when (xs.length + ys.length ≤ big) (mkL al (xs ++ ys) S)
  | .mul, .tup xs, .int k => .when (0 < xs.length ∧ xs.length ≤ 1000 ∧ 1 ≤ k ∧ k.natAbs ≤ 1000) (.ok (.tup (List.replicate k.toNat xs).flatten) S)
  | .mul, x, .int k => .of (lstOf S x) fun xs => .when (k.natAbs < 2 ^ 63 ∧ xs.length * k.toNat ≤ big) (mkL al (List.replicate k.toNat xs).flatten S)
  | _, _, _ => .bad
/-- == of plain values -/
def eqM : M → M → Option Bool
  | .non, .non => some true
  | .bl a, .bl b => some (a == b)
  | .int a, .int b => some (a == b)
  | .str a, .str b => some (decide (a = b))
  | .bl a, .int b => some (b2z a == b)
  | .int b, .bl a => some (b2z a == b)
  | .non, .int _ => some false
  | .int _, .non => some false
  | .non, .bl _ => some false
  | .bl _, .non => some false
  | .non, .str _ => some false
  | .str _, .non => some false
  | .int _, .str _ => some false
  | .str _, .int _ => some false
  | .bl _, .str _ => some false
  | .str _, .bl _ => some false
  | _, _ => none
/-- x in xs, ints -/
def intsOf : List M → Option (List Int)
  | [] => some []
  | .int i :: r => (intsOf r).map (i :: ·)
  | _ => none
/-- .. truth values -/
def blsOf : List M → Option (List Bool)
  | [] => some []
  | .bl i :: r => (blsOf r).map (i :: ·)
  | _ => none
/-- dicts: keys are ints and texts -/
def keyM : M → Option Key
  | .int i => some (.inl i)
  | .str s => some (.inr s)
  | _ => none
def getK (l : List (Key × M)) (k : Key) : Option M := (l.find? fun p => decide (p.1 = k)).map (·.2)
def putM (l : List (Key × M)) (k : Key) (m : M) : List (Key × M) := if (l.any fun p => decide (p.1 = k)) = true then l.map (fun p => if p.1 = k then (p.1, m) else p) else l ++ [(k, m)]
def mergeM (l : List (Key × M)) : List (Key × M) := l.foldl (fun acc p => putM acc p.1 p.2) []
def pairsOf : List M → Option (List (Key × M))
  | [] => some []
  | .tup [k, v] :: r => (keyM k).bind fun k => (pairsOf r).map ((k, v) :: ·)
  | _ => none
def dicOf (S : Store) : M → Option (List (Key × M))
  | .ref n => match S[n]? with
    | some (.dic l) => some l
    | _ => none
  | _ => none
def isNon : M → Bool
  | .non => true
  | _ => false
def cmpop (o : Cop) (a b : M) (S : Store) : R M := match o, a, b with
  | .eq, x, y => .of (eqM x y) fun r => .ok (.bl r) S
  | .ne, x, y => .of (eqM x y) fun r => .ok (.bl (!r)) S
  | .lt, .int i, .int j => .ok (.bl (decide (i < j))) S
  | .le, .int i, .int j => .ok (.bl (decide (i ≤ j))) S
  | .gt, .int i, .int j => .ok (.bl (decide (j < i))) S
  | .ge, .int i, .int j => .ok (.bl (decide (j ≤ i))) S
  | .isN, x, .non => .ok (.bl (isNon x)) S
  | .notN, x, .non => .ok (.bl (!isNon x)) S
  | .isin, .int i, y => match dicOf S y with
    | some l => .ok (.bl (getK l (.inl i)).isSome) S
    | none => .of ((seqOf S y).bind intsOf) fun is => .ok (.bl (decide (i ∈ is))) S
  | .notin, .int i, y => match dicOf S y with
    | some l => .ok (.bl (!(getK l (.inl i)).isSome)) S
    | none => .of ((seqOf S y).bind intsOf) fun is => .ok (.bl (!decide (i ∈ is))) S
  | .isin, .str i, y => .of (dicOf S y) fun l => .ok (.bl (getK l (.inr i)).isSome) S
  | .notin, .str i, y => .of (dicOf S y) fun l => .ok (.bl (!(getK l (.inr i)).isSome)) S
  | .isin, .bl i, y => .of ((seqOf S y).bind blsOf) fun is => .ok (.bl (decide (i ∈ is))) S
  | .notin, .bl i, y => .of ((seqOf S y).bind blsOf) fun is => .ok (.bl (!decide (i ∈ is))) S
  | _, _, _ => .bad
/-- an index of any sign -/
def ixop (a i : M) (S : Store) : R M := match i with
  | .int i => match dicOf S a with
    | some l => .of (getK l (.inl i)) fun m => .ok m S
    | none => .of (seqOf S a) fun ms => .of (atI ms i) fun m => .ok m S
  | .str i => .of (dicOf S a) fun l => .of (getK l (.inr i)) fun m => .ok m S
  | _ => .bad
def truth (S : Store) : M → Option Bool
  | .bl b => some b
  | .int i => some (i != 0)
  | .non => some false
  | .str x => if x.length ≤ big then some ((x.length : Int) != 0) else none
  | .tup ms => some (!ms.isEmpty)
  | .lst ms => some (!ms.isEmpty)
  | .ref n => match S[n]? with
    | some (.lst ms) => some (!ms.isEmpty)
    | _ => none
  | _ => none
def cutM (xs : List M) (lo hi : Option Int) : List M := (xs.drop (HT.sIx xs.length 0 lo)).take (HT.sIx xs.length xs.length hi - HT.sIx xs.length 0 lo)
def slop (al : Bool) (a : M) (l h : Option Int) (S : Store) : R M := match a with
  | .tup ms => .ok (.tup (cutM ms l h)) S
  | .str _ => .bad
  | x => .of (seqOf S x) fun ms => mkL al (cutM ms l h) S
def revop (al : Bool) (a : M) (S : Store) : R M := match a with
  | .tup ms => .ok (.tup ms.reverse) S
  | x => .of (lstOf S x) fun ms => mkL al ms.reverse S
def insI (a : Int) : List Int → List Int
  | [] => [a]
  | b :: r => if a ≤ b then a :: b :: r else b :: insI a r
def isort : List Int → List Int
  | [] => []
  | a :: r => insI a (isort r)
def maxZ : List Int → Int
  | [] => 0
  | [a] => a
  | a :: r => max a (maxZ r)
def minZ : List Int → Int
  | [] => 0
  | [a] => a
  | a :: r => min a (minZ r)
/-- tuples of ints: their ints -/
def tupsOf : List M → Option (List (List Int))
  | [] => some []
  | .tup ms :: r => (intsOf ms).bind fun t => (tupsOf r).map (t :: ·)
  | _ => none
def tupBd : Int := 18446744073709551616
def tIns (a : List Int) : List (List Int) → List (List Int)
  | [] => [a]
  | b :: r => if TS.code tupBd a ≤ TS.code tupBd b then a :: b :: r else b :: tIns a r
def tsort : List (List Int) → List (List Int)
  | [] => []
  | a :: r => tIns a (tsort r)
def tOk (ts : List (List Int)) : Bool := decide (ts.length < 64) && decide (1 ≤ (ts.headD [0]).length) && ts.all fun t => decide (t.length = (ts.headD [0]).length) && t.all fun i => decide (0 ≤ i ∧ i.natAbs < 18446744073709551616)
def biop (b : Bi) (as : List M) (S : Store) : R M := match b, as with
  | .abs, [.int i] => .ok (.int (if i < 0 then -i else i)) S
  | .max, [.int i, .int j] => .ok (.int (if j > i then j else i)) S
  | .min, [.int i, .int j] => .ok (.int (if j < i then j else i)) S
  | .int, [.int i] => .ok (.int i) S
  | .int, [.bl b] => .ok (.int (if b then 1 else 0)) S
  | .int, [.str z] => .when (z.length ≤ 640) (.of (PySem.intText? z) fun n => .ok (.int n) S)
  | .len, [.str x] => .when (x.length ≤ big) (.ok (.int x.length) S)
  | .len, [x] => .of (seqOf S x) fun ms => .ok (.int ms.length) S
  | .sum, [x] => .of ((lstOf S x).bind intsOf) fun is => .ok (.int is.sum) S
  | .list al, [x] => .of (seqOf S x) fun ms => mkL al ms S
  | .tuple, [x] => .of (seqOf S x) fun ms => .ok (.tup ms) S
  | .sorted al, [x] => match (seqOf S x).bind intsOf with
    | some is => .when (is.length < 64) (mkL al ((isort is).map M.int) S)
    | none => .of ((seqOf S x).bind tupsOf) fun ts => .when (tOk ts = true) (mkL al ((tsort ts).map fun t => .tup (t.map M.int)) S)
  | .maxL, [x] => .of ((lstOf S x).bind intsOf) fun is => .when (0 < is.length) (.ok (.int (maxZ is)) S)
  | .minL, [x] => .of ((lstOf S x).bind intsOf) fun is => .when (0 < is.length) (.ok (.int (minZ is)) S)
  | .max, [.int i, .int j, .int k] => .ok (.int (if k > (if j > i then j else i) then k else (if j > i then j else i))) S
  | .dict, [x] => .of ((lstOf S x).bind pairsOf) fun l => .when (l.length ≤ 4000) (.ok (.ref S.length) (S ++ [.dic (mergeM l)]))
  | .str, [.int i] => .when (i.natAbs.log2 < 1900) (.ok (.str (toString i)) S)
  | _, _ => .bad
/-! texts -/
/-- the signs of a text, one by one -/
def signs (z : Str) : List M := z.cps.toList.map fun c => M.str ⟨#[c]⟩
def inS (i j : Str) : Bool := !(Builtin.Str.occurrences j i 0 j.length 1).isEmpty
def strsOf : List M → Option (List Str)
  | [] => some []
  | .str i :: r => (strsOf r).map (i :: ·)
  | _ => none
def sixop (a i : M) (S : Store) : R M := match a, i with
  | .str z, .int i => .when (z.length ≤ big) (.of (atI z.cps.toList i) fun c => .ok (.str ⟨#[c]⟩) S)
  | _, _ => .bad
def sslop (a : M) (l h : Option Int) (S : Store) : R M := match a with
  | .str z => .when (z.length ≤ big) (.ok (.str (cutS z l h)) S)
  | _ => .bad
def sinop (neg : Bool) (a b : M) (S : Store) : R M := match a, b with
  | .str i, .str j => .ok (.bl (if neg = true then !inS i j else inS i j)) S
  | _, _ => .bad
def strOf : M → Option Str
  | .str z => some z
  | _ => none
def joinop (z : Str) (a : M) (S : Store) : R M := .of ((seqOf S a).bind strsOf) fun ys => .when ((ys.map (·.length)).sum + ys.length * z.length ≤ 1000000) (.ok (.str (Txt.join z ys)) S)
def splitop (al : Bool) (z : Str) (a : M) (S : Store) : R M := .of (strOf a) fun y => .when (z.length + 2 ≤ big ∧ (y.length == 0) = false) (mkL al ((Txt.split z y).map M.str) S)
/-! data of any depth, to be compared as such -/
mutual
def toD : M → Option PyData
  | .non => some .none
  | .bl b => some (.bool b)
  | .int i => some (.int i)
  | .str z => some (.str z)
  | .tup l => (toDs l).map .tuple
  | .lst l => (toDs l).map .list
  | .scr _ => none
  | .ref _ => none
def toDs : List M → Option (List PyData)
  | [] => some []
  | m :: r => (toD m).bind fun d => (toDs r).map (d :: ·)
end
def deqop (neg : Bool) (a b : M) (S : Store) : R M := .of (toD a) fun d => .of (toD b) fun e => .when (SeqAt.shaped d = true ∧ SeqAt.shaped e = true) (.ok (.bl (if neg = true then !PyData.eqv d e else PyData.eqv d e)) S)
def rangeL (a b : Int) : List M := (List.range (b - a).toNat).map fun i => M.int (a + (i : Nat))
def RgOk' (a b : Int) : Prop := a.natAbs < 2 ^ 62 ∧ b.natAbs < 2 ^ 62 ∧ (b - a).toNat ≤ big
instance (a b : Int) : Decidable (RgOk' a b) := by unfold RgOk'; infer_instance
def range12 : List M → Option (Int × Int)
  | [.int b] => some (0, b)
  | [.int a, .int b] => some (a, b)
  | _ => none
def tyOf (S : Store) : M → Option String
  | .non => some "NoneType"
  | .bl _ => some "bool"
  | .int _ => some "int"
  | .str _ => some "str"
  | .tup _ => some "tuple"
  | .lst _ => some "list"
  | .ref n => match S[n]? with
    | some (.lst _) => some "list"
    | _ => none
  | .scr _ => none
/-- isinstance by names; bool is a kind of int -/
def isTy (t c : String) : Bool := t == c || (t == "bool" && c == "int")
def isiop (a : M) (ts : List String) (S : Store) : R M := .of (tyOf S a) fun t => .ok (.bl (ts.any (isTy t))) S
/-- a method of a list of the store -/
def meop (m : Me) (o : M) (as : List M) (S : Store) : R M := match o with
  | .ref n => .of S[n]? fun ob => match ob with
    | .lst xs => match m, as with
      | .append, [x] => .when (xs.length < big) (.ok .non (S.set n (.lst (xs ++ [x]))))
      | .pop, [] => .of xs[xs.length - 1]? fun y => .ok y (S.set n (.lst xs.dropLast))
      | .pop, [.int i] => .when (i.natAbs < 2 ^ 62) (.of (seqIndex? i xs.length) fun j => .of xs[j]? fun y => .ok y (S.set n (.lst (xs.eraseIdx j))))
      | .extend, [y] => match y with
        | .lst ys => .when (xs.length + ys.length ≤ big) (.ok .non (S.set n (.lst (xs ++ ys))))
        | _ => .bad
      | .insert, [.int i, y] => .when (0 ≤ i ∧ i.natAbs < 2 ^ 62 ∧ xs.length < big) (.ok .non (S.set n (.lst (xs.take i.toNat ++ [y] ++ xs.drop i.toNat))))
      | .remove, [.int k] => .of (intsOf xs) fun is => .when (k ∈ is) (.ok .non (S.set n (.lst ((is.eraseIdx (is.idxOf k)).map M.int))))
      | _, _ => .bad
    | .dic _ => .bad
  | _ => .bad
/-- o[i] = v -/
def setiop (o i v : M) (S : Store) : R Unit := match o with
  | .ref n => .of S[n]? fun ob => match ob with
    | .lst xs => match i with
      | .int k => .of (ixN xs.length k) fun j => .ok () (S.set n (.lst (xs.set j v)))
      | _ => .bad
    | .dic l => .of (keyM i) fun k => .when (l.length < big) (.ok () (S.set n (.dic (putM l k v))))
  | _ => .bad
/-- what is handed to a call that can't change it -/
def M.plain : M → Bool
  | .non => true
  | .bl _ => true
  | .int _ => true
  | .str _ => true
  | .tup ms => go ms
  | .lst _ => false
  | .scr _ => false
  | .ref _ => false
where go : List M → Bool
  | [] => true
  | m :: r => M.plain m && go r
/-- no object of the store within -/
def M.noref : M → Bool
  | .ref _ => false
  | .tup ms => go ms
  | .lst ms => go ms
  | _ => true
where go : List M → Bool
  | [] => true
  | m :: r => M.noref m && go r
def derefA (S : Store) : M → Option M
  | .ref n => match S[n]? with
    | some (.lst ms) => if M.noref.go ms = true then some (.lst ms) else none
    | _ => none
  | m => if m.noref = true then some m else none
def derefs (S : Store) : List M → Option (List M)
  | [] => some []
  | m :: r => (derefA S m).bind fun x => (derefs S r).map (x :: ·)
/-- what comes back of such a call: lists that it made are never changed again -/
def freeze (S : Store) : M → Option M
  | .ref n => match S[n]? with
    | some (.lst ms) => if M.plain.go ms = true then some (.lst ms) else none
    | _ => none
  | m => if m.plain = true then some m else none
/-- a target in the names -/
def bindT (tg : Tg) (m : M) (γ : Env) : Option Env := match tg with
  | .nm i => some (γ.set i (some m))
  | .tu l => match m with
    | .tup ms => if ms.length = l.length then some (go l ms γ) else none
    | .lst ms => if ms.length = l.length then some (go l ms γ) else none
    | _ => none
where go : List Nat → List M → Env → Env
  | i :: l, m :: ms, γ => go l ms (γ.set i (some m))
  | _, _, γ => γ
def wipeE (γ : Env) : List Nat → Env
  | [] => γ
  | v :: vs => (wipeE γ vs).set v none
/-- what is walked: the items; the value that must stay as it is -/
structure Src where
  items : List M
  src : M
  fix : List M
def Src.ok (s : Src) (S : Store) : Prop := seqOf S s.src = some s.fix
instance (s : Src) (S : Store) : Decidable (s.ok S) := by unfold Src.ok; infer_instance
/-- the turns of a comprehension: what each gives, if anything -/
def compLoop (s : Src) (f : M → Store → R (Option M)) : List M → Store → R (List M)
  | [], S => .when (s.ok S) (.ok [] S)
  | x :: xs, S => .when (s.ok S) ((f x S).bind fun o S1 => (compLoop s f xs S1).bind fun r S2 => .ok (o.toList ++ r) S2)
/-- the turns of two fors: the rows one behind the other -/
def rowLoop (s : Src) (f : M → Store → R (List M)) : List M → Store → R (List M)
  | [], S => .when (s.ok S) (.ok [] S)
  | x :: xs, S => .when (s.ok S) ((f x S).bind fun l S1 => (rowLoop s f xs S1).bind fun r S2 => .ok (l ++ r) S2)
/-- the turns of any, all; neg: what it is where all give that -/
def anyLoop (s : Src) (f : M → Store → R (Option M)) (neg : Bool) : List M → Store → R M
  | [], S => .when (s.ok S) (.ok (.bl neg) S)
  | x :: xs, S => .when (s.ok S) ((f x S).bind fun o S1 => match o with
    | none => anyLoop s f neg xs S1
    | some (.bl b) => if b = neg then anyLoop s f neg xs S1 else .ok (.bl b) S1
    | _ => .bad)
/-- an exception may not leave a comprehension's turn -/
def R.calm {τ : Type} : R τ → R τ
  | .exc _ _ => .bad
  | r => r
inductive F where
  | nx (γ : Env) | ret (m : M) | brk (γ : Env) | cnt (γ : Env)
def forLoop (s : Src) (f : M → Env → Store → R F) : List M → Env → Store → R F
  | [], γ, S => .when (s.ok S) (.ok (.nx γ) S)
  | x :: xs, γ, S => .when (s.ok S) ((f x γ S).bind fun fl S1 => match fl with
    | .nx γ1 => forLoop s f xs γ1 S1
    | .cnt γ1 => forLoop s f xs γ1 S1
    | .brk γ1 => .ok (.nx γ1) S1
    | .ret m => .ok (.ret m) S1)
def whileLoop (t : Env → Store → R Bool) (f : Env → Store → R F) : Nat → Env → Store → R F
  | 0, _, _ => .bad
  | n + 1, γ, S => (t γ S).bind fun b S1 => if b = true then ((f γ S1).bind fun fl S2 => match fl with
      | .nx γ1 => whileLoop t f n γ1 S2
      | .cnt γ1 => whileLoop t f n γ1 S2
      | .brk γ1 => .ok (.nx γ1) S2
      | .ret m => .ok (.ret m) S2)
    else .ok (.nx γ) S1
def dedup : List Int → List Int
  | [] => []
  | a :: r => if a ∈ r then dedup r else a :: dedup r
/-- keywords: the values in the parameters' order; qs: where each further parameter's value stands -/
def place {τ : Type} (qs : List Nat) (as bs : List τ) : List τ := as ++ qs.filterMap fun q => bs[q]?
def placeN {τ : Type} (n : Nat) (qs : List Nat) (as bs : List τ) : List τ := if as.length = n ∧ bs.length = qs.length then place qs as bs else []
def Cs.len : Cs → Nat
  | .nil => 0
  | .cons _ r => r.len + 1

section
variable (call : String → List M → Store → R M)
def callM (pu : Bool) (f : String) (ms : List M) (S : Store) : R M :=
  if pu = true then .of (derefs S ms) fun as => match call f as [] with
    | .ok m S' => .of (freeze S' m) fun r => .ok r S
    | .exc x _ => if (x.fs.all fun p => p.2.plain) = true then .exc x S else .bad
    | .bad => .bad
  else call f ms S
mutual
def ev : C → Env → Store → R M
  | .var i, γ, S => match γ[i]? with
    | some (some m) => .ok m S
    | _ => .bad
  | .con k, _, S => .ok k.m S
  | .tup es, γ, S => (evs es γ S).bind fun ms S => .when (ms.length ≤ big) (.ok (.tup ms) S)
  | .lst al es, γ, S => (evs es γ S).bind fun ms S => .when (ms.length ≤ big) (mkL al ms S)
  | .bin al o a b, γ, S => (ev a γ S).bind fun x S => (ev b γ S).bind fun y S => binop al o x y S
  | .neg a, γ, S => (ev a γ S).bind fun x S => match x with
    | .int i => .ok (.int (-i)) S
    | _ => .bad
  | .cmp o a b, γ, S => (ev a γ S).bind fun x S => (ev b γ S).bind fun y S => cmpop o x y S
  | .chain o o' a b c, γ, S => (ev a γ S).bind fun x S => (ev b γ S).bind fun y S => (cmpop o x y S).bind fun r S => match r with
    | .bl true => (ev c γ S).bind fun z S => cmpop o' y z S
    | .bl false => .ok (.bl false) S
    | _ => .bad
  | .and a b, γ, S => (ev a γ S).bind fun x S => match x with
    | .bl true => ev b γ S
    | .bl false => .ok (.bl false) S
    | _ => .bad
  | .or a b, γ, S => (ev a γ S).bind fun x S => match x with
    | .bl true => .ok (.bl true) S
    | .bl false => ev b γ S
    | _ => .bad
  | .one a, γ, S => ev a γ S
  | .not a, γ, S => (ev a γ S).bind fun x S => match x with
    | .bl b => .ok (.bl !b) S
    | _ => .bad
  | .ife t a b, γ, S => (evT t γ S).bind fun c S => if c = true then ev a γ S else ev b γ S
  | .ix a i, γ, S => (ev a γ S).bind fun x S => (ev i γ S).bind fun y S => ixop x y S
  | .sl al a lo hi, γ, S => (ev a γ S).bind fun x S => (evo lo γ S).bind fun l S => (evo hi γ S).bind fun h S => slop al x l h S
  | .rev al a, γ, S => (ev a γ S).bind fun x S => revop al x S
  | .call pu f es, γ, S => (evs es γ S).bind fun ms S => callM call pu f ms S
  | .callk pu f es qs kes, γ, S => (evs es γ S).bind fun ms S => (evs kes γ S).bind fun ns S => .when (ms.length = es.len ∧ ns.length = qs.length) (callM call pu f (place qs ms ns) S)
  | .bi b es, γ, S => (evs es γ S).bind fun ms S => biop b ms S
  | .lrange al es, γ, S => (evs es γ S).bind fun ms S => .of (range12 ms) fun p => .when (RgOk' p.1 p.2) (mkL al (rangeL p.1 p.2) S)
  | .trange es, γ, S => (evs es γ S).bind fun ms S => .of (range12 ms) fun p => .when (RgOk' p.1 p.2) (.ok (.tup (rangeL p.1 p.2)) S)
  | .isi a ts, γ, S => (ev a γ S).bind fun x S => isiop x ts S
  | .meth m o es, γ, S => (ev o γ S).bind fun x S => .of (lstOf S x) fun _ => (evs es γ S).bind fun ms S => meop m x ms S
  | .lc al tg it ifs e own, γ, S => (evI it γ S).bind fun s S => .when (s.items.length ≤ big) ((compLoop s (fun x S => .of (bindT tg x (wipeE γ own)) fun γ1 =>
      ((evt ifs γ1 S).bind fun b S => if b = true then (ev e γ1 S).bind fun m S => .ok (some m) S else .ok none S).calm) s.items S).bind fun ms S => mkL al ms S)
  | .ssc al tg it ifs e own, γ, S => (evI it γ S).bind fun s S => .when (s.items.length ≤ 4000) ((compLoop s (fun x S => .of (bindT tg x (wipeE γ own)) fun γ1 =>
      ((evt ifs γ1 S).bind fun b S => if b = true then (ev e γ1 S).bind fun m S => .ok (some m) S else .ok none S).calm) s.items S).bind fun ms S =>
      .of (intsOf ms) fun is => .when ((dedup is).length < 64) (mkL al ((isort (dedup is)).map M.int) S))
  | .cst _ i, _, S => .ok (.int i) S
  | .cstS _ t, _, S => .ok (.str (Str.ofString t)) S
  | .six a i, γ, S => (ev a γ S).bind fun x S => (ev i γ S).bind fun y S => sixop x y S
  | .ssl a lo hi, γ, S => (ev a γ S).bind fun x S => (evo lo γ S).bind fun l S => (evo hi γ S).bind fun h S => sslop x l h S
  | .sin neg a b, γ, S => (ev a γ S).bind fun x S => (ev b γ S).bind fun y S => sinop neg x y S
  | .deq neg a b, γ, S => (ev a γ S).bind fun x S => (ev b γ S).bind fun y S => deqop neg x y S
  | .join o a, γ, S => (ev o γ S).bind fun x S => .of (strOf x) fun z => (ev a γ S).bind fun y S => joinop z y S
  | .split al o a, γ, S => (ev o γ S).bind fun x S => .of (strOf x) fun z => (ev a γ S).bind fun y S => splitop al z y S
  | .chain3 o o' o'' a b c d, γ, S => (ev a γ S).bind fun x S => (ev b γ S).bind fun y S => (cmpop o x y S).bind fun r S => match r with
    | .bl true => (ev c γ S).bind fun z S => (cmpop o' y z S).bind fun r S => match r with
      | .bl true => (ev d γ S).bind fun w S => cmpop o'' z w S
      | .bl false => .ok (.bl false) S
      | _ => .bad
    | .bl false => .ok (.bl false) S
    | _ => .bad
  | .anyg neg tg it ifs e own, γ, S => (evI it γ S).bind fun s S => .when (s.items.length ≤ big) (anyLoop s (fun x S => .of (bindT tg x (wipeE γ own)) fun γ1 =>
      ((evt ifs γ1 S).bind fun b S => if b = true then (ev e γ1 S).bind fun m S => .ok (some m) S else .ok none S).calm) neg s.items S)
  | .dct ks es, γ, S => (evs es γ S).bind fun ms S => .when (ks.length = ms.length ∧ ms.length ≤ 15) (.ok (.ref S.length) (S ++ [.dic (mergeM ((ks.map fun k => (.inr (Str.ofString k) : Key)).zip ms))]))
  | .lc2 al tg it tg2 it2 ifs e own own2, γ, S => (evI it γ S).bind fun s S => .when (s.items.length ≤ 1000) ((rowLoop s (fun x S => .of (bindT tg x (wipeE γ own)) fun γ1 =>
      (evI it2 γ1 S).calm.bind fun s2 S => .when (s2.items.length ≤ 1000) (compLoop s2 (fun x S => .of (bindT tg2 x (wipeE γ1 own2)) fun γ2 =>
      ((evt ifs γ2 S).bind fun b S => if b = true then (ev e γ2 S).bind fun m S => .ok (some m) S else .ok none S).calm) s2.items S)) s.items S).bind fun ms S => mkL al ms S)
termination_by structural x => x
def evT : T → Env → Store → R Bool
  | .and a b, γ, S => (evT a γ S).bind fun c S => if c = true then evT b γ S else .ok false S
  | .or a b, γ, S => (evT a γ S).bind fun c S => if c = true then .ok true S else evT b γ S
  | .one a, γ, S => evT a γ S
  | .not a, γ, S => (evT a γ S).bind fun c S => .ok (!c) S
  | .v e, γ, S => (ev e γ S).bind fun m S => .of (truth S m) fun b => .ok b S
termination_by structural x => x
def evs : Cs → Env → Store → R (List M)
  | .nil, _, S => .ok [] S
  | .cons a r, γ, S => (ev a γ S).bind fun x S => (evs r γ S).bind fun xs S => .ok (x :: xs) S
termination_by structural x => x
def evo : Co → Env → Store → R (Option Int)
  | .no, _, S => .ok none S
  | .so a, γ, S => (ev a γ S).bind fun x S => match x with
    | .int i => .ok (some i) S
    | _ => .bad
termination_by structural x => x
def evt : To → Env → Store → R Bool
  | .no, _, S => .ok true S
  | .so a, γ, S => evT a γ S
termination_by structural x => x
def evI : It' → Env → Store → R Src
  | .val a, γ, S => (ev a γ S).bind fun x S => .of (seqOf S x) fun ms => .ok ⟨ms, x, ms⟩ S
  | .range1 a, γ, S => (ev a γ S).bind fun x S => match x with
    | .int j => .when (RgOk' 0 j) (.ok ⟨rangeL 0 j, .tup [], []⟩ S)
    | _ => .bad
  | .range2 a b, γ, S => (ev a γ S).bind fun x S => (ev b γ S).bind fun y S => match x, y with
    | .int i, .int j => .when (RgOk' i j) (.ok ⟨rangeL i j, .tup [], []⟩ S)
    | _, _ => .bad
  | .enum a, γ, S => (ev a γ S).bind fun x S => .of (seqOf S x) fun ms => .ok ⟨(List.range ms.length).map fun i => .tup [.int (i : Nat), ms.getD i .non], x, ms⟩ S
  | .sgn a, γ, S => (ev a γ S).bind fun x S => match x with
    | .str z => .when (z.length ≤ big) (.ok ⟨signs z, .tup [], []⟩ S)
    | _ => .bad
termination_by structural x => x
end
end
end Mi

namespace Mi
open PySem PySem.Spec L2
variable [Tabs]

/-- an exception as it lies: its class, its dict with the fields -/
def ExR (K : PySem.W.Frag) (Z : List Addr) (mg : Str → Option Value) (α : List Addr) (H : Hp) (x : Ex) (cv : Value) (d : Option Addr) : Prop :=
  mg (Str.ofString x.cls) = some cv ∧ ∃ dd fs, d = some dd ∧ H dd = some (.xd fs) ∧ ∀ (f : String) (m : M), (f, m) ∈ x.fs → ∃ v, fs.lookup (Str.ofString f) = some v ∧ Rep K Z α H m v
def EW (K : PySem.W.Frag) (Z : List Addr) (mg : Str → Option Value) (E : XK) (x : Ex) (S : Store) (α : List Addr) (H : Hp) : Prop :=
  ∀ α' H' cv d, Tr α H α' H' → SR K Z α' H' S → ExR K Z mg α' H' x cv d → E cv d H'
/-- what an outcome asks -/
def Out {τ : Type} (K : PySem.W.Frag) (Z : List Addr) (mg : Str → Option Value) (E : XK) (r : R τ) (α : List Addr) (H : Hp) (P : τ → Store → List Addr → Hp → Prop) : Prop := match r with
  | .ok a S => ∀ α' H', Tr α H α' H' → SR K Z α' H' S → P a S α' H'
  | .exc x S => EW K Z mg E x S α H
  | .bad => False
section
variable {K : PySem.W.Frag} {mg : Str → Option Value} {E : XK} {Z α α' : List Addr} {H H' : Hp} {S : Store} {τ υ : Type}
theorem EW.tr {x : Ex} (t : Tr α H α' H') (h : EW K Z mg E x S α H) : EW K Z mg E x S α' H' := fun α2 H2 cv d t2 s2 e => h α2 H2 cv d (t.trans t2) s2 e
theorem Out.tr {r : R τ} {P : τ → Store → List Addr → Hp → Prop} (t : Tr α H α' H') (h : Out K Z mg E r α H P) : Out K Z mg E r α' H' P := by
  cases r with
  | ok a S => exact fun α2 H2 t2 s2 => h α2 H2 (t.trans t2) s2
  | exc x S => exact EW.tr t h
  | bad => exact h
theorem Out.imp {r : R τ} {P Q : τ → Store → List Addr → Hp → Prop} (h : Out K Z mg E r α H P) (hi : ∀ a S' α' H', Tr α H α' H' → SR K Z α' H' S' → P a S' α' H' → Q a S' α' H') : Out K Z mg E r α H Q := by
  cases r with
  | ok a S => exact fun α2 H2 t2 s2 => hi a S α2 H2 t2 s2 (h α2 H2 t2 s2)
  | exc x S => exact h
  | bad => exact h
theorem Out.bind {r : R τ} {f : τ → Store → R υ} {P : υ → Store → List Addr → Hp → Prop} (h : Out K Z mg E (r.bind f) α H P) :
    Out K Z mg E r α H fun a S1 α1 H1 => Out K Z mg E (f a S1) α1 H1 P := by
  cases r with
  | ok a S => exact fun α2 H2 t2 s2 => Out.tr t2 h
  | exc x S => exact h
  | bad => exact h
theorem Out.when {c : Prop} [Decidable c] {r : R τ} {P : τ → Store → List Addr → Hp → Prop} (h : Out K Z mg E (.when c r) α H P) : c ∧ Out K Z mg E r α H P := by
  unfold R.when at h
  split at h
  · exact ⟨by assumption, h⟩
  · exact False.elim h
theorem Out.of {o : Option τ} {f : τ → R υ} {P : υ → Store → List Addr → Hp → Prop} (h : Out K Z mg E (.of o f) α H P) : ∃ a, o = some a ∧ Out K Z mg E (f a) α H P := by
  cases o with
  | none => exact False.elim h
  | some a => exact ⟨a, rfl, h⟩
/-- at once -/
theorem Out.now {a : τ} {P : τ → Store → List Addr → Hp → Prop} (s : SR K Z α H S) (h : Out K Z mg E (.ok a S) α H P) : P a S α H := h α H (Tr.refl s) s
/-- the readings -/
abbrev PM (K : PySem.W.Frag) (Z : List Addr) (Q : VK) : M → Store → List Addr → Hp → Prop := fun m _ α' H' => ∀ v, Rep K Z α' H' m v → Q v H'
abbrev PL (K : PySem.W.Frag) (Z : List Addr) (Q : List V → Hp → Prop) : List M → Store → List Addr → Hp → Prop := fun ms _ α' H' => ∀ vs, RepL K Z α' H' ms vs → Q vs H'
def tR {τ : Type} (K : PySem.W.Frag) (mg : Str → Option Value) (E : XK) (e : Env → Store → R τ) (σ : Slots) (H : Hp) (P : List Addr → τ → Store → List Addr → Hp → Prop) : Prop :=
  ∃ Z α S γ, SR K Z α H S ∧ ER K Z α H γ σ ∧ Out K Z mg E (e γ S) α H (P Z)
def tM (K : PySem.W.Frag) (mg : Str → Option Value) (E : XK) (e : Env → Store → R M) : TE := fun σ H Q => tR K mg E e σ H fun Z => PM K Z Q
def tB' (K : PySem.W.Frag) (mg : Str → Option Value) (E : XK) (e : Env → Store → R Bool) : TT := fun σ H Q => tR K mg E e σ H fun _ b _ _ H' => Q b H'
def tMs (K : PySem.W.Frag) (mg : Str → Option Value) (E : XK) (e : Env → Store → R (List M)) : TA := fun σ H Q => tR K mg E e σ H fun Z => PL K Z Q
end
theorem PE.wk {X : Cx} {e : Expr} {t t' : TE} (h : PE X e t) (w : ∀ σ H Q, t' σ H Q → t σ H Q) : PE X e t' := ⟨fun pins s σ H Q I ht => h.run pins s σ H Q I (w σ H Q ht)⟩
theorem PT.wk {X : Cx} {e : Expr} {t t' : TT} (h : PT X e t) (w : ∀ σ H Q, t' σ H Q → t σ H Q) : PT X e t' := ⟨fun pins s σ H Q I ht => h.run pins s σ H Q I (w σ H Q ht)⟩
theorem PW.wk {X : Cx} {e : Expr} {t t' : TT} (h : PW X e t) (w : ∀ σ H Q, t' σ H Q → t σ H Q) : PW X e t' := ⟨fun wh pins s σ H Q I ht => h.run wh pins s σ H Q I (w σ H Q ht)⟩
theorem PA.wk {X : Cx} {e : List Expr} {t t' : TA} (h : PA X e t) (w : ∀ σ H Q, t' σ H Q → t σ H Q) : PA X e t' := ⟨fun pos pins s σ H Q I ht => h.run pos pins s σ H Q I (w σ H Q ht)⟩
theorem PS.wk {X : Cx} {e : Stmt} {t t' : TS} (h : PS X e t) (w : ∀ D σ H, t' D σ H → t D σ H) : PS X e t' := ⟨fun pins s σ H D I ht => h.run pins s σ H D I (w D σ H ht)⟩
theorem PSs.wk {X : Cx} {e : List Stmt} {t t' : TS} (h : PSs X e t) (w : ∀ D σ H, t' D σ H → t D σ H) : PSs X e t' := ⟨fun pins s σ H D I ht => h.run pins s σ H D I (w D σ H ht)⟩

section
variable {K : PySem.W.Frag} {mg : Str → Option Value} {E : XK} {Z α : List Addr} {H : Hp} {S : Store}
theorem big_line : big < sizeLine := by rw [sizeLine_eq]; decide
/-- a new object that is none of the store's -/
theorem Tr.new {p : Addr} {o : HO} (s : SR K Z α H S) (hp : H p = none) : Tr α H α (upd H p o) := by
  refine ⟨fun a u h _ _ => by rw [upd_ne (ne_of_none h hp)]; exact h, fun a ps h => ⟨ps, by rw [upd_ne (ne_of_none h hp)]; exact h, id⟩, ⟨[], by simp, by simp⟩, fun a ha => ?_⟩
  obtain ⟨u, e, _⟩ := s.muts a ha
  rw [upd_ne (ne_of_none e hp), e]
  exact fun z => by cases z
/-- the reserved addresses stay -/
theorem SR.zkeep {α' : List Addr} {H' : Hp} (s : SR K Z α H S) (t : Tr α H α' H') {a : Addr} (ha : a ∈ Z) : a ∉ α' ∧ H' a ≠ none := by
  obtain ⟨h1, h2⟩ := s.zs a ha
  cases e : H a with
  | none => exact absurd e h2
  | some o => exact ⟨notin_tr t e h1, t.still h2 h1⟩
theorem SR.tr {H' : Hp} (s : SR K Z α H S) (t : Tr α H α H') (k : ∀ a ∈ α, H' a = H a) : SR K Z α H' S := by
  refine ⟨s.nd, s.len, fun n o e => ?_, fun a ha => s.zkeep t ha, fun a ha => (s.tb a ha).tr t⟩
  obtain ⟨a, ha, ob⟩ := s.obj n o e
  refine ⟨a, ha, ?_⟩
  have hm : a ∈ α := List.mem_of_getElem? ha
  exact ob.map (RepL.tr s.muts t) (k a hm)
theorem SR.new {p : Addr} {o : HO} (s : SR K Z α H S) (hp : H p = none) : SR K Z α (upd H p o) S := by
  refine s.tr (Tr.new s hp) fun a ha => ?_
  obtain ⟨u, e, _⟩ := s.muts a ha
  rw [upd_ne (ne_of_none e hp)]
theorem notin_new {p : Addr} (s : SR K Z α H S) (hp : H p = none) : p ∉ α ∧ p ∉ Z := by
  refine ⟨fun h => ?_, fun h => (s.zs p h).2 hp⟩
  obtain ⟨u, e, _⟩ := s.muts p h
  rw [hp] at e; cases e
/-- a new object of the store's -/
theorem Tr.allocO {p : Addr} {w : HO} (s : SR K Z α H S) (hp : H p = none) : Tr α H (α ++ [p]) (upd H p w) := by
  refine ⟨fun a u h _ _ => by rw [upd_ne (ne_of_none h hp)]; exact h, fun a ps h => ⟨ps, by rw [upd_ne (ne_of_none h hp)]; exact h, id⟩, ⟨[p], rfl, fun a ha => by rw [List.mem_singleton.mp ha]; exact hp⟩, fun a ha => ?_⟩
  rcases List.mem_append.mp ha with ha | ha
  · obtain ⟨u, e, _⟩ := s.muts a ha
    rw [upd_ne (ne_of_none e hp), e]
    exact fun z => by cases z
  · rw [List.mem_singleton.mp ha, upd_same]; exact fun z => by cases z
theorem SR.allocO {p : Addr} {w : HO} {ob : O} (s : SR K Z α H S) (hp : H p = none) (r : ObjR K Z (α ++ [p]) (upd H p w) p ob) : SR K Z (α ++ [p]) (upd H p w) (S ++ [ob]) := by
  have t := Tr.allocO (w := w) s hp
  refine ⟨List.nodup_append.mpr ⟨s.nd, by simp, fun a ha b hb => ?_⟩, by simp [s.len], fun n o e => ?_, fun a ha => s.zkeep t ha, fun a ha => (s.tb a ha).tr t⟩
  · rw [List.mem_singleton.mp hb]; rintro rfl; exact (notin_new s hp).1 ha
  · by_cases hn : n < S.length
    · rw [List.getElem?_append_left hn] at e
      obtain ⟨a, ha, ob⟩ := s.obj n o e
      have hm : a ∈ α := List.mem_of_getElem? ha
      obtain ⟨u, hu, _⟩ := s.muts a hm
      exact ⟨a, get_tr t ha, ob.map (RepL.tr s.muts t) (upd_ne (ne_of_none hu hp))⟩
    · have hn' : S.length ≤ n := by omega
      rw [List.getElem?_append_right hn'] at e
      have h0 : n - S.length = 0 := by
        have := (List.getElem?_eq_some_iff.mp e).1
        simp at this; omega
      rw [h0] at e
      simp at e
      subst e
      refine ⟨p, ?_, r⟩
      rw [List.getElem?_append_right (by rw [s.len]; exact hn'), s.len, h0]; rfl
theorem Tr.alloc {p : Addr} {xs : List V} (s : SR K Z α H S) (hp : H p = none) : Tr α H (α ++ [p]) (upd H p (.lst xs)) := Tr.allocO s hp
theorem SR.alloc {p : Addr} {xs : List V} {ms : List M} (s : SR K Z α H S) (hp : H p = none) (r : RepL K Z α H ms xs) : SR K Z (α ++ [p]) (upd H p (.lst xs)) (S ++ [.lst ms]) :=
  SR.allocO s hp ⟨xs, upd_same, RepL.tr s.muts (Tr.alloc s hp) _ _ r⟩
/-- a new list, however it is held -/
theorem Out.mkL {al : Bool} {ms : List M} {xs : List V} {Q : VK} {p : Addr} (s : SR K Z α H S) (r : RepL K Z α H ms xs) (hp : H p = none) (h : Out K Z mg E (mkL al ms S) α H (PM K Z Q)) : Q (.ref p) (upd H p (.lst xs)) := by
  unfold Mi.mkL at h
  cases al with
  | true =>
    rw [if_pos rfl] at h
    refine h (α ++ [p]) _ (Tr.alloc s hp) (SR.alloc s hp r) (.ref p) ?_
    simp only [Rep]
    exact ⟨p, by rw [List.getElem?_append_right (by rw [s.len]; exact Nat.le_refl _), s.len]; simp, rfl⟩
  | false =>
    rw [if_neg (by simp)] at h
    have t := Tr.new (o := .lst xs) s hp
    refine h α _ t (SR.new s hp) (.ref p) ?_
    simp only [Rep]
    exact ⟨p, xs, rfl, upd_same, notin_new s hp, RepL.tr s.muts t _ _ r⟩
theorem Out.mkT {ms : List M} {xs : List V} {Q : VK} {p : Addr} (s : SR K Z α H S) (r : RepL K Z α H ms xs) (hp : H p = none) (h : Out K Z mg E (.ok (.tup ms) S) α H (PM K Z Q)) : Q (.ref p) (upd H p (.tup xs)) := by
  have t := Tr.new (o := .tup xs) s hp
  refine h α _ t (SR.new s hp) (.ref p) ?_
  simp only [Rep]
  exact ⟨p, xs, rfl, .of upd_same, RepL.tr s.muts t _ _ r⟩
end
end Mi

/-! dicts of the store -/
namespace Mi
open PySem PySem.Spec L2 PyProof.Rows
section
variable {X : Cx}
/-! ### rules by values, of dicts whose keys are ints and texts -/
def rDIx : R2 := fun x y H Q => ∃ a kvs k v, x = .ref a ∧ y = kV k ∧ H a = some (.dK kvs) ∧ valV kvs k = some v ∧ Q v H
theorem ix_dic : IxR X rDIx := by
  intro value slice pins s σ H x y v u Q I rx ry h hs
  obtain ⟨a, kvs, k, z, rfl, rfl, e, l, q⟩ := h
  cases rx
  obtain ⟨zl, hd, vs, rel, dd⟩ := dk_of I.hok e
  obtain ⟨w', hw, rw'⟩ := RelO.some_of (v := z) (o := valueAt vs k) (by rw [← l]; exact rel.val k)
  exact subscriptTail_builtinR (x := w') dd.typeIs PySem.F.slot_dict_getitem.lookup (wpAny_getItem_of (kV_is ry) dd.mapOf hw ⟨rfl, z, H, I.tok _, rw', q⟩) hs
def rDIn (neg : Bool) : R2 := fun x y H Q => ∃ a kvs k, y = .ref a ∧ x = kV k ∧ H a = some (.dK kvs) ∧ Q (.bl (if neg = true then !(valV kvs k).isSome else (valV kvs k).isSome)) H
theorem op_din : OpR X (compareOp .In) (rDIn false) := by
  intro pins s σ H x y v u Q I rx ry h
  obtain ⟨a, kvs, k, rfl, rfl, e, q⟩ := h
  cases ry
  obtain ⟨z, hd, vs, rel, dd⟩ := dk_of I.hok e
  refine wpAny_in_of (kV_is rx) hd dd.mapOf ?_
  rw [← (rel.val k).isSome_eq]
  exact ⟨.bl _, H, I.tok _, rfl, q⟩
theorem op_dnotin : OpR X (compareOp .NotIn) (rDIn true) := by
  intro pins s σ H x y v u Q I rx ry h
  obtain ⟨a, kvs, k, rfl, rfl, e, q⟩ := h
  cases ry
  obtain ⟨z, hd, vs, rel, dd⟩ := dk_of I.hok e
  refine wpAny_notIn_of (kV_is rx) hd dd.mapOf ?_
  rw [← (rel.val k).isSome_eq]
  exact ⟨.bl _, H, I.tok _, rfl, q⟩
def rDSet : TSet := fun o i v H Q => ∃ a kvs k, o = .ref a ∧ i = kV k ∧ H a = some (.dK kvs) ∧ kvs.length < sizeLine ∧ Q (upd H a (.dK (putK kvs k v)))
theorem set_dic : PSet X rDSet := by
  intro pins s σ H o i v ov iv u Q I ro ri rv h
  obtain ⟨a, kvs, k, rfl, rfl, e, l, q⟩ := h
  cases (show ov = Value.ref a from ro)
  obtain ⟨z, hd, vs, rel, dd⟩ := dk_of I.hok e
  have hz : vs.length ≤ sizeLine := by rw [← rel.length]; exact z
  have hl : (putK kvs k v).length ≤ sizeLine := by have := length_putK kvs k v; omega
  refine wpAny_setItem_pairs (hsz := hz) (kV_is ri) dd fun h' dd' hs => ⟨_, ?_, q⟩
  have he : ∃ q, h'.get? a = some q := let ⟨q, _, _, hq, _⟩ := dd'; ⟨q, hq⟩
  exact d_write I (by rw [e]; exact True.intro) hs he (dk_new hl hd (rel.put k rv) dd')
theorem PSet.or {t u : TSet} (h : PSet X t) (h' : PSet X u) : PSet X (fun o i v H Q => t o i v H Q ∨ u o i v H Q) := by
  intro pins s σ H o i v ov iv uu Q I ro ri rv q
  rcases q with q | q
  · exact h pins s σ H o i v ov iv uu Q I ro ri rv q
  · exact h' pins s σ H o i v ov iv uu Q I ro ri rv q
def rMax3 : List V → Hp → VK → Prop := fun xs H Q => ∃ i j k, xs = [.int i, .int j, .int k] ∧ Q (.int (if k > (if j > i then j else i) then k else (if j > i then j else i))) H
theorem call_max3 (hc : X.calm = true) : CallR X (.builtin "max") rMax3 := by
  intro pins s σ H xs us Q I r h
  obtain ⟨i, j, k, rfl, q⟩ := h
  refine call_max3Nu hc pins s σ H _ us Q I r ⟨.int i, .int j, .int k, _, rfl, ?_, q⟩
  unfold nuMax3 nuMax2 nuLt nuCB
  by_cases h1 : i < j <;> simp [h1] <;> (split <;> simp_all)
end
variable [Tabs]
section
variable {K : PySem.W.Frag} {mg : Str → Option Value} {E : XK} {Z α : List Addr} {H : Hp} {S : Store} {Q : VK}
theorem dic_rep {m : M} {v : V} {l : List (Key × M)} (s : SR K Z α H S) (r : Rep K Z α H m v) (e : dicOf S m = some l) : ∃ n a kvs, m = .ref n ∧ v = .ref a ∧ α[n]? = some a ∧ S[n]? = some (.dic l) ∧ H a = some (.dK kvs) ∧ kvs.map (·.1) = l.map (·.1) ∧ RepL K Z α H (l.map (·.2)) (kvs.map (·.2)) := by
  cases m with
  | ref n =>
    simp only [Rep] at r
    obtain ⟨a, ha, rfl⟩ := r
    simp only [dicOf] at e
    split at e
    · rename_i l' hl
      cases e
      obtain ⟨a', ha', ob⟩ := s.obj n _ hl
      rw [ha] at ha'; cases ha'
      obtain ⟨kvs, h1, h2, h3⟩ := ob
      exact ⟨n, a, kvs, rfl, rfl, ha, hl, h1, h2, h3⟩
    · cases e
  | _ => cases e
theorem key_rep {m : M} {k : Key} {v : V} (r : Rep K Z α H m v) (e : keyM m = some k) : v = kV k := by
  cases m with
  | int i => simp only [keyM, Option.some.injEq] at e; subst e; exact rep_int0 r
  | str i => simp only [keyM, Option.some.injEq] at e; subst e; exact rep_str0 r
  | _ => cases e
where
  rep_int0 {i : Int} {v : V} (r : Rep K Z α H (.int i) v) : v = kV (.inl i) := by
    have : v = .int i := by simpa only [Rep] using r
    exact this
  rep_str0 {i : Str} {v : V} (r : Rep K Z α H (.str i) v) : v = kV (.inr i) := by
    have : v = .str i := by simpa only [Rep] using r
    exact this
theorem any_keys (k : Key) : ∀ {l : List (Key × M)} {kvs : List (Key × V)}, kvs.map (·.1) = l.map (·.1) → (l.any fun p => decide (p.1 = k)) = kvs.any fun p => decide (p.1 = k)
  | [], kvs, h => by cases kvs with
    | nil => rfl
    | cons => cases h
  | p :: l, kvs, h => by
    cases kvs with
    | nil => cases h
    | cons q kvs =>
      simp only [List.map_cons, List.cons.injEq] at h
      rw [List.any_cons, List.any_cons, any_keys k h.2, h.1]
theorem get_rep (k : Key) : ∀ {l : List (Key × M)} {kvs : List (Key × V)}, kvs.map (·.1) = l.map (·.1) → RepL K Z α H (l.map (·.2)) (kvs.map (·.2)) → (getK l k).isSome = (valV kvs k).isSome ∧ ∀ m, getK l k = some m → ∃ v, valV kvs k = some v ∧ Rep K Z α H m v
  | [], kvs, h, r => by
    cases kvs with
    | nil => exact ⟨rfl, fun m e => by cases e⟩
    | cons => cases h
  | p :: l, kvs, h, r => by
    cases kvs with
    | nil => cases h
    | cons q kvs =>
      simp only [List.map_cons, List.cons.injEq] at h
      simp only [List.map_cons, RepL, List.cons.injEq] at r
      obtain ⟨x, xs, ⟨rfl, rfl⟩, r1, r2⟩ := r
      by_cases hk : p.1 = k
      · rw [valV_pos (by rw [h.1]; exact hk)]
        have e : getK (p :: l) k = some p.2 := by simp [getK, List.find?_cons, hk]
        rw [e]
        exact ⟨rfl, fun m e => by cases e; exact ⟨_, rfl, r1⟩⟩
      · rw [valV_neg (by rw [h.1]; exact hk)]
        have e : getK (p :: l) k = getK l k := by simp [getK, List.find?_cons, hk]
        rw [e]
        exact get_rep k h.2 r2
theorem repl_rep (k : Key) {m : M} {v : V} (rv : Rep K Z α H m v) : ∀ {l : List (Key × M)} {kvs : List (Key × V)}, kvs.map (·.1) = l.map (·.1) → RepL K Z α H (l.map (·.2)) (kvs.map (·.2)) →
    (kvs.map fun kv => if kv.1 = k then (kv.1, v) else kv).map (·.1) = (l.map fun p => if p.1 = k then (p.1, m) else p).map (·.1) ∧ RepL K Z α H ((l.map fun p => if p.1 = k then (p.1, m) else p).map (·.2)) ((kvs.map fun kv => if kv.1 = k then (kv.1, v) else kv).map (·.2))
  | [], kvs, h, r => by
    cases kvs with
    | nil => exact ⟨rfl, r⟩
    | cons => cases h
  | p :: l, kvs, h, r => by
    cases kvs with
    | nil => cases h
    | cons q kvs =>
      simp only [List.map_cons, List.cons.injEq] at h
      simp only [List.map_cons, RepL, List.cons.injEq] at r
      obtain ⟨x, xs, ⟨rfl, rfl⟩, r1, r2⟩ := r
      obtain ⟨i1, i2⟩ := repl_rep k rv h.2 r2
      refine ⟨?_, ?_⟩
      · simp only [List.map_cons]
        rw [i1]
        congr 1
        split <;> split <;> simp_all
      · simp only [List.map_cons, RepL]
        refine ⟨_, _, rfl, ?_, i2⟩
        by_cases hk : p.1 = k
        · rw [if_pos hk, if_pos (by rw [h.1]; exact hk)]; exact rv
        · rw [if_neg hk, if_neg (by rw [h.1]; exact hk)]; exact r1
theorem put_rep (k : Key) {m : M} {v : V} (rv : Rep K Z α H m v) {l : List (Key × M)} {kvs : List (Key × V)} (h : kvs.map (·.1) = l.map (·.1)) (r : RepL K Z α H (l.map (·.2)) (kvs.map (·.2))) :
    (putK kvs k v).map (·.1) = (putM l k m).map (·.1) ∧ RepL K Z α H ((putM l k m).map (·.2)) ((putK kvs k v).map (·.2)) := by
  unfold putK putM
  rw [any_keys k h]
  by_cases c : (kvs.any fun p => decide (p.1 = k)) = true
  · rw [if_pos c, if_pos c]
    exact repl_rep k rv h r
  · rw [if_neg c, if_neg c]
    refine ⟨by simp [h], ?_⟩
    rw [List.map_append, List.map_append]
    exact r.append (RepL.one rv)
theorem merge_rep : ∀ {more : List (Key × M)} {ms : List (Key × V)} {l : List (Key × M)} {kvs : List (Key × V)}, ms.map (·.1) = more.map (·.1) → RepL K Z α H (more.map (·.2)) (ms.map (·.2)) → kvs.map (·.1) = l.map (·.1) → RepL K Z α H (l.map (·.2)) (kvs.map (·.2)) →
    (mergeK kvs ms).map (·.1) = (more.foldl (fun acc p => putM acc p.1 p.2) l).map (·.1) ∧ RepL K Z α H ((more.foldl (fun acc p => putM acc p.1 p.2) l).map (·.2)) ((mergeK kvs ms).map (·.2))
  | [], ms, l, kvs, h, r, h0, r0 => by
    cases ms with
    | nil => exact ⟨h0, r0⟩
    | cons => cases h
  | p :: more, ms, l, kvs, h, r, h0, r0 => by
    cases ms with
    | nil => cases h
    | cons q ms =>
      simp only [List.map_cons, List.cons.injEq] at h
      simp only [List.map_cons, RepL, List.cons.injEq] at r
      obtain ⟨x, xs, ⟨rfl, rfl⟩, r1, r2⟩ := r
      obtain ⟨p1, p2⟩ := put_rep p.1 r1 h0 r0
      have := merge_rep h.2 r2 (l := putM l p.1 p.2) (kvs := putK kvs p.1 q.2) p1 p2
      rw [List.foldl_cons]
      have e : mergeK kvs (q :: ms) = mergeK (putK kvs p.1 q.2) ms := by rw [← h.1]; rfl
      rw [e]
      exact this
theorem dicOf_seq {m : M} {l : List (Key × M)} (e : dicOf S m = some l) : seqOf S m = none := by
  cases m with
  | ref n =>
    simp only [dicOf] at e
    split at e
    · rename_i h; simp [seqOf, h]
    · cases e
  | _ => cases e
theorem pairs_rep : ∀ {ms : List M} {xs : List V} {l : List (Key × M)}, RepL K Z α H ms xs → pairsOf ms = some l → ∃ (ps : List Addr) (kvs : List (Key × V)), xs = ps.map V.ref ∧ Paired (fun p kv => SqT K H p [kV kv.1, kv.2]) ps kvs ∧ kvs.map (·.1) = l.map (·.1) ∧ RepL K Z α H (l.map (·.2)) (kvs.map (·.2))
  | [], xs, l, r, e => by
    simp only [pairsOf, Option.some.injEq] at e
    subst e
    simp only [RepL] at r
    subst r
    exact ⟨[], [], rfl, .nil, rfl, by simp only [List.map_nil, RepL]⟩
  | m :: ms, xs, l, r, e => by
    have hm : ∃ k v, m = .tup [k, v] := by
      unfold pairsOf at e
      split at e
      · rename_i q; cases q
      · rename_i q; cases q; exact ⟨_, _, rfl⟩
      · cases e
    obtain ⟨k, v, rfl⟩ := hm
    simp only [pairsOf] at e
    obtain ⟨key, e1, e⟩ := Option.bind_eq_some_iff.mp e
    obtain ⟨l', e2, rfl⟩ := Option.map_eq_some_iff.mp e
    simp only [RepL] at r
    obtain ⟨x, xr, rfl, r1, r2⟩ := r
    simp only [Rep] at r1
    obtain ⟨a, ys, rfl, hs, r1⟩ := r1
    simp only [RepL] at r1
    obtain ⟨x1, _, rfl, q1, x2, _, rfl, q2, rfl⟩ := r1
    obtain ⟨ps, kvs, rfl, h1, h2, h3⟩ := pairs_rep r2 e2
    rw [key_rep q1 e1] at hs
    refine ⟨a :: ps, (key, x2) :: kvs, rfl, .cons hs h1, by simp [h2], ?_⟩
    simp only [List.map_cons, RepL]
    exact ⟨_, _, rfl, q2, h3⟩
/-- a new dict of the store's -/
theorem Out.mkD {l : List (Key × M)} {kvs : List (Key × V)} {p : Addr} (s : SR K Z α H S) (hk : kvs.map (·.1) = l.map (·.1)) (r : RepL K Z α H (l.map (·.2)) (kvs.map (·.2))) (hp : H p = none) (h : Out K Z mg E (.ok (.ref S.length) (S ++ [.dic l])) α H (PM K Z Q)) : Q (.ref p) (upd H p (.dK kvs)) := by
  have t := Tr.allocO (w := .dK kvs) s hp
  refine h (α ++ [p]) _ t (SR.allocO s hp ⟨kvs, upd_same, hk, RepL.tr s.muts t _ _ r⟩) (.ref p) ?_
  simp only [Rep]
  exact ⟨p, by rw [List.getElem?_append_right (by rw [s.len]; exact Nat.le_refl _), s.len]; simp, rfl⟩
end
end Mi

namespace Mi
open PySem PySem.Spec L2
variable [Tabs]

theorem OpR.or {X : Cx} {f : Value → Value → Sem Value} {r r' : R2} (h : OpR X f r) (h' : OpR X f r') : OpR X f (fun x y H Q => r x y H Q ∨ r' x y H Q) := by
  intro pins s σ H x y v u Q I rx ry q
  rcases q with q | q
  · exact h pins s σ H x y v u Q I rx ry q
  · exact h' pins s σ H x y v u Q I rx ry q

section
variable {K : PySem.W.Frag} {mg : Str → Option Value} {E : XK} {Z α : List Addr} {H : Hp} {S : Store} {Q : VK}

theorem lst_rep {m : M} {v : V} {ms : List M} (s : SR K Z α H S) (h : Rep K Z α H m v) (e : lstOf S m = some ms) : ∃ a xs, v = .ref a ∧ H a = some (.lst xs) ∧ RepL K Z α H ms xs := by
  cases m with
  | lst l =>
    simp only [lstOf, Option.some.injEq] at e; subst e
    simp only [Rep] at h
    obtain ⟨a, xs, rfl, h, _, r⟩ := h
    exact ⟨a, xs, rfl, h, r⟩
  | ref n =>
    simp only [lstOf] at e
    simp only [Rep] at h
    obtain ⟨a, ha, rfl⟩ := h
    cases q : S[n]? with
    | none => rw [q] at e; cases e
    | some o =>
      rw [q] at e
      obtain ⟨a', ha', ob⟩ := s.obj n o q
      rw [ha] at ha'; cases ha'
      cases o with
      | lst l =>
        cases e
        obtain ⟨xs, hx, r⟩ := ob
        exact ⟨a, xs, rfl, hx, r⟩
      | dic l => cases e
  | tup l => simp [lstOf] at e
  | scr l => simp [lstOf] at e
  | non => simp [lstOf] at e
  | bl b => simp [lstOf] at e
  | int b => simp [lstOf] at e
  | str b => simp [lstOf] at e
theorem lstOf_seq {m : M} {ms : List M} (e : lstOf S m = some ms) : seqOf S m = some ms := by
  cases m <;> simp_all [lstOf, seqOf] <;> exact e

theorem RepL.flatrep {ms : List M} {xs : List V} (h : RepL K Z α H ms xs) : ∀ k : Nat, RepL K Z α H (List.replicate k ms).flatten (List.replicate k xs).flatten
  | 0 => by simp [RepL]
  | k + 1 => by
    rw [List.replicate_succ, List.replicate_succ, List.flatten_cons, List.flatten_cons]
    exact RepL.append h (RepL.flatrep h k)
theorem log_lt {i : Int} (h : i.natAbs < 2 ^ 4096) : i.natAbs.log2 < 4096 := PySem.Flt.log2_lt_of (by decide) h

/-- the wish of a pair of operands -/
def rBin (K : PySem.W.Frag) (o : Bop) : R2 := match o with
  | .add => fun x y H Q => (rI0 (fun i j => .int (i + j)) x y H Q ∨ (∃ i j, x = .str i ∧ y = .str j ∧ i.length + j.length ≤ sizeLine ∧ Q (.str (i ++ j)) H)) ∨ (rCat x y H Q ∨ (rCatA K x y H Q ∨ rBI (fun i j => i + j) x y H Q))
  | .sub => fun x y H Q => rI0 (fun i j => .int (i - j)) x y H Q ∨ rBI (fun i j => i - j) x y H Q
  | .mul => fun x y H Q => (rI CMul (fun i j => .int (i * j)) x y H Q ∨ rI CMulW (fun i j => .int (i * j)) x y H Q) ∨ (rRep x y H Q ∨ (rRepT K x y H Q ∨ rRepT1 K x y H Q))
  | .mod => rI (fun _ j => 0 < j) fun i j => .int (i % j)
  | .fdiv => rI CDivW fun i j => .int (i / j)
  | .pow => rI CPow fun i j => .int (i ^ j.toNat)
  | .shl => rI CPow fun i j => .int (i * 2 ^ j.toNat)
omit [Tabs] in
def Bop.op : Bop → Operator
  | .add => .Add
  | .sub => .Sub
  | .mul => .Mult
  | .mod => .Mod
  | .fdiv => .FloorDiv
  | .pow => .Pow
  | .shl => .LShift
theorem op_bin {X : Cx} (o : Bop) : OpR X (binaryOp o.op) (rBin X.K o) := by
  cases o with
  | add => exact (OpR.or (OpR.or op_add op_add_str) (OpR.or op_cat (OpR.or op_catA op_add_bi)))
  | sub => exact OpR.or op_sub op_sub_bi
  | mul => exact (OpR.or (OpR.or op_mul op_mulW) (OpR.or op_rep (OpR.or op_repT op_repT1)))
  | mod => exact op_mod
  | fdiv => exact op_fdivW
  | pow => exact op_pow
  | shl => exact op_shl

theorem out_int {i : Int} (s : SR K Z α H S) (h : Out K Z mg E (.ok (.int i) S) α H (PM K Z Q)) : Q (.int i) H := h.now s (.int i) (by simp only [Rep])
theorem out_bl {b : Bool} (s : SR K Z α H S) (h : Out K Z mg E (.ok (.bl b) S) α H (PM K Z Q)) : Q (.bl b) H := h.now s (.bl b) (by simp only [Rep])
theorem out_str {b : Str} (s : SR K Z α H S) (h : Out K Z mg E (.ok (.str b) S) α H (PM K Z Q)) : Q (.str b) H := h.now s (.str b) (by simp only [Rep])
theorem out_val {m : M} {v : V} (s : SR K Z α H S) (r : Rep K Z α H m v) (h : Out K Z mg E (.ok m S) α H (PM K Z Q)) : Q v H := h.now s v r

theorem rep_int {i : Int} {x : V} (h : Rep K Z α H (.int i) x) : x = .int i := by simpa only [Rep] using h
theorem rep_bl {i : Bool} {x : V} (h : Rep K Z α H (.bl i) x) : x = .bl i := by simpa only [Rep] using h
theorem rep_str {i : Str} {x : V} (h : Rep K Z α H (.str i) x) : x = .str i := by simpa only [Rep] using h
theorem rep_non {x : V} (h : Rep K Z α H .non x) : x = .non := by simpa only [Rep] using h

theorem cat_out {al : Bool} {m n : M} {x y : V} (s : SR K Z α H S) (rx : Rep K Z α H m x) (ry : Rep K Z α H n y)
    (h : Out K Z mg E (.of (lstOf S m) fun xs => .of (lstOf S n) fun ys => .when (xs.length + ys.length ≤ big) (mkL al (xs ++ ys) S)) α H (PM K Z Q)) : rCat x y H Q := by
  obtain ⟨xs, e1, h⟩ := h.of
  obtain ⟨ys, e2, h⟩ := h.of
  obtain ⟨hl, h⟩ := h.when
  obtain ⟨a, us, rfl, ha, r1⟩ := lst_rep s rx e1
  obtain ⟨b, ws, rfl, hb, r2⟩ := lst_rep s ry e2
  have l1 := r1.length
  have l2 := r2.length
  have := big_line
  exact ⟨a, b, us, ws, rfl, rfl, ha, hb, by omega, fun p hp => Out.mkL s (r1.append r2) hp h⟩
theorem rep_out {al : Bool} {m : M} {k : Int} {x y : V} (s : SR K Z α H S) (rx : Rep K Z α H m x) (ry : Rep K Z α H (.int k) y)
    (h : Out K Z mg E (.of (lstOf S m) fun xs => .when (k.natAbs < 2 ^ 63 ∧ xs.length * k.toNat ≤ big) (mkL al (List.replicate k.toNat xs).flatten S)) α H (PM K Z Q)) : rRep x y H Q := by
  obtain ⟨xs, e1, h⟩ := h.of
  obtain ⟨⟨k0, hl⟩, h⟩ := h.when
  have k1 : -(2 ^ 63 : Int) ≤ k := by omega
  have k2 : k < 2 ^ 63 := by omega
  obtain ⟨a, us, rfl, ha, r1⟩ := lst_rep s rx e1
  have l1 := r1.length
  have := big_line
  refine ⟨a, k, us, rfl, rep_int ry, ha, k1, k2, Nat.le_trans (by rw [← l1]; exact hl) (Nat.le_of_lt big_line), fun p hp => ?_⟩
  exact Out.mkL s (r1.flatrep k.toNat) hp h
theorem bin_out {al : Bool} {o : Bop} {m n : M} {x y : V} (s : SR K Z α H S) (rx : Rep K Z α H m x) (ry : Rep K Z α H n y) (h : Out K Z mg E (binop al o m n S) α H (PM K Z Q)) : rBin K o x y H Q := by
  unfold binop at h
  split at h
  · exact .inl (.inl ⟨_, _, rep_int rx, rep_int ry, out_int s h⟩)
  · exact .inl ⟨_, _, rep_int rx, rep_int ry, out_int s h⟩
  · exact .inr ⟨_, _, rep_bl rx, rep_int ry, out_int s h⟩
  · exact .inr (.inr (.inr ⟨_, _, rep_bl rx, rep_int ry, out_int s h⟩))
  · obtain ⟨c, h⟩ := h.when
    rcases c with c | ⟨c1, c2⟩
    · exact .inl (.inl ⟨_, _, rep_int rx, rep_int ry, c.imp (fun c => ⟨by omega, by omega⟩) fun c => ⟨by omega, by omega⟩, out_int s h⟩)
    · exact .inl (.inr ⟨_, _, rep_int rx, rep_int ry, wide_mul c1 c2 (by decide) (by decide) (by decide), out_int s h⟩)
  · obtain ⟨c, h⟩ := h.when
    exact ⟨_, _, rep_int rx, rep_int ry, c, out_int s h⟩
  · obtain ⟨⟨c1, c2⟩, h⟩ := h.when
    exact ⟨_, _, rep_int rx, rep_int ry, wide_div c1 (b := 4096) (by omega) (by decide) (by decide), out_int s h⟩
  · obtain ⟨c, h⟩ := h.when
    exact ⟨_, _, rep_int rx, rep_int ry, ⟨c.1, by omega, c.2.2⟩, out_int s h⟩
  · obtain ⟨c, h⟩ := h.when
    exact ⟨_, _, rep_int rx, rep_int ry, ⟨c.1, by omega, c.2.2⟩, out_int s h⟩
  · obtain ⟨c, h⟩ := h.when
    have := big_line
    exact .inl (.inr ⟨_, _, rep_str rx, rep_str ry, by omega, out_str s h⟩)
  · rename_i xs ys
    obtain ⟨c, h⟩ := h.when
    simp only [Rep] at rx ry
    obtain ⟨a, us, rfl, ha, r1⟩ := rx
    obtain ⟨b, ws, rfl, hb, r2⟩ := ry
    have l1 := r1.length
    have l2 := r2.length
    have := big_line
    refine .inr (.inr (.inl ⟨a, b, us, ws, rfl, rfl, ha, hb, by omega, fun z => ?_, fun _ z => ?_, fun _ _ p hp => Out.mkT s (r1.append r2) hp h⟩))
    · have e : xs = [] := List.eq_nil_of_length_eq_zero (by rw [l1, z]; rfl)
      subst e
      exact out_val s (m := .tup ys) (by simp only [Rep]; exact ⟨b, ws, rfl, hb, r2⟩) h
    · have e : ys = [] := List.eq_nil_of_length_eq_zero (by rw [l2, z]; rfl)
      subst e
      rw [List.append_nil] at h
      exact out_val s (m := .tup xs) (by simp only [Rep]; exact ⟨a, us, rfl, ha, r1⟩) h
  · exact .inr (.inl (cat_out s rx ry h))
  · rename_i xs k
    obtain ⟨⟨c1, c2, c3, c4⟩, h⟩ := h.when
    simp only [Rep] at rx
    obtain ⟨a, us, rfl, ha, r1⟩ := rx
    have l1 := r1.length
    by_cases hk1 : k = 1
    · subst hk1
      have e1 : (List.replicate (1 : Int).toNat xs).flatten = xs := by simp
      rw [e1] at h
      exact .inr (.inr (.inr ⟨a, us, rfl, rep_int ry, ha, out_val s (m := .tup xs) (by simp only [Rep]; exact ⟨a, us, rfl, ha, r1⟩) h⟩))
    refine .inr (.inr (.inl ⟨a, k, us, rfl, rep_int ry, ha, fun z => ?_, by omega, by omega, by omega, fun p hp => Out.mkT s (r1.flatrep k.toNat) hp h⟩))
    rw [z] at l1
    rw [l1] at c1
    exact absurd c1 (by decide)
  · exact .inr (.inl (rep_out s rx ry h))
  · exact False.elim h

/-! ### comparisons -/
theorem eqM_scal {m n : M} {b : Bool} {x y : V} (rx : Rep K Z α H m x) (ry : Rep K Z α H n y) (e : eqM m n = some b) : (scal x y = true ∧ decide (x = y) = b) ∨ ∃ k i, ((x = V.bl k ∧ y = V.int i) ∨ (x = V.int i ∧ y = V.bl k)) ∧ (b2z k == i) = b := by
  cases m <;> cases n <;> simp only [eqM, Option.some.injEq, reduceCtorEq] at e <;> subst e
  all_goals simp only [Rep] at rx ry; subst rx; subst ry
  all_goals first
    | exact .inr ⟨_, _, .inl ⟨rfl, rfl⟩, rfl⟩
    | exact .inr ⟨_, _, .inr ⟨rfl, rfl⟩, rfl⟩
    | (refine .inl ?_; simp [scal]; done)
    | (refine .inl ?_; simp [scal]; first | rfl | (rw [Bool.eq_iff_iff]; simp))
theorem intsOf_map : ∀ {ms : List M} {is : List Int}, intsOf ms = some is → ms = is.map M.int
  | [], is, h => by simp only [intsOf, Option.some.injEq] at h; subst h; rfl
  | .int i :: r, is, h => by
    simp only [intsOf, Option.map_eq_some_iff] at h
    obtain ⟨js, e, rfl⟩ := h
    rw [intsOf_map e]; rfl
  | .non :: r, is, h => by simp [intsOf] at h
  | .bl _ :: r, is, h => by simp [intsOf] at h
  | .str _ :: r, is, h => by simp [intsOf] at h
  | .tup _ :: r, is, h => by simp [intsOf] at h
  | .lst _ :: r, is, h => by simp [intsOf] at h
  | .scr _ :: r, is, h => by simp [intsOf] at h
  | .ref _ :: r, is, h => by simp [intsOf] at h
theorem inV_ints (i : Int) : ∀ is : List Int, inV (.int i) (is.map V.int) = decide (i ∈ is)
  | [] => by simp [inV]
  | j :: r => by
    have ih := inV_ints i r
    unfold inV at ih ⊢
    rw [List.map_cons, List.any_cons, ih]
    have e : eqV (.int j) (.int i) = decide (i = j) := by
      show (j == i) = _
      rw [Bool.beq_eq_decide_eq]
      exact decide_eq_decide.mpr eq_comm
    rw [e, Bool.eq_iff_iff, Bool.or_eq_true, decide_eq_true_iff, decide_eq_true_iff, decide_eq_true_iff, List.mem_cons]
theorem blsOf_map : ∀ {ms : List M} {is : List Bool}, blsOf ms = some is → ms = is.map M.bl
  | [], is, h => by simp only [blsOf, Option.some.injEq] at h; subst h; rfl
  | .bl i :: r, is, h => by
    simp only [blsOf, Option.map_eq_some_iff] at h
    obtain ⟨js, e, rfl⟩ := h
    rw [blsOf_map e]; rfl
  | .non :: r, is, h => by simp [blsOf] at h
  | .int _ :: r, is, h => by simp [blsOf] at h
  | .str _ :: r, is, h => by simp [blsOf] at h
  | .tup _ :: r, is, h => by simp [blsOf] at h
  | .lst _ :: r, is, h => by simp [blsOf] at h
  | .scr _ :: r, is, h => by simp [blsOf] at h
  | .ref _ :: r, is, h => by simp [blsOf] at h
theorem RepL.bls : ∀ {ns : List Bool} {xs : List V}, RepL K Z α H (ns.map M.bl) xs → xs = ns.map V.bl
  | [], xs, h => by simpa only [List.map_nil, RepL] using h
  | n :: ns, xs, h => by
    simp only [List.map_cons, RepL, Rep] at h
    obtain ⟨x, r, rfl, rfl, q⟩ := h
    rw [RepL.bls q]; rfl
theorem inV_bls (i : Bool) : ∀ is : List Bool, inV (.bl i) (is.map V.bl) = decide (i ∈ is)
  | [] => by simp [inV]
  | j :: r => by
    have ih := inV_bls i r
    unfold inV at ih ⊢
    rw [List.map_cons, List.any_cons, ih]
    have e : eqV (.bl j) (.bl i) = decide (i = j) := by
      show (j == i) = _
      rw [Bool.beq_eq_decide_eq]
      exact decide_eq_decide.mpr eq_comm
    rw [e, Bool.eq_iff_iff, Bool.or_eq_true, decide_eq_true_iff, decide_eq_true_iff, decide_eq_true_iff, List.mem_cons]
theorem flat_bls (is : List Bool) : (is.map V.bl).all flatV = true := by simp [flatV]
theorem flat_ints (is : List Int) : (is.map V.int).all flatV = true := by simp [flatV]

def rCmp (K : PySem.W.Frag) (o : Cop) : R2 := match o with
  | .eq => fun x y H Q => rEq x y H Q ∨ rEqBI false x y H Q
  | .ne => fun x y H Q => rNe x y H Q ∨ rEqBI true x y H Q
  | .lt => rI0 fun i j => .bl (decide (i < j))
  | .le => rI0 fun i j => .bl (decide (i ≤ j))
  | .gt => rI0 fun i j => .bl (decide (j < i))
  | .ge => rI0 fun i j => .bl (decide (j ≤ i))
  | .isN => fun x y H Q => y = .non ∧ Q (.bl (decide (x = .non))) H
  | .notN => fun x y H Q => y = .non ∧ Q (.bl (!decide (x = .non))) H
  | .isin => fun x y H Q => rIn K false x y H Q ∨ rDIn false x y H Q
  | .notin => fun x y H Q => rIn K true x y H Q ∨ rDIn true x y H Q
omit [Tabs] in
def Cop.op : Cop → CmpOp
  | .eq => .Eq
  | .ne => .NotEq
  | .lt => .Lt
  | .le => .LtE
  | .gt => .Gt
  | .ge => .GtE
  | .isN => .Is
  | .notN => .IsNot
  | .isin => .In
  | .notin => .NotIn
theorem op_cmp {X : Cx} (o : Cop) : OpR X (compareOp o.op) (rCmp X.K o) := by
  cases o with
  | eq => exact OpR.or op_eq op_eq_bi
  | ne => exact OpR.or op_ne op_ne_bi
  | lt => exact op_lt
  | le => exact op_le
  | gt => exact op_gt
  | ge => exact op_ge
  | isN => exact op_isN
  | notN => exact op_notN
  | isin => exact (OpR.or op_in_seq op_din)
  | notin => exact (OpR.or op_notIn_seq op_dnotin)
theorem isN_rep {m : M} {x : V} (r : Rep K Z α H m x) : decide (x = .non) = isNon m := by
  cases m <;> simp only [Rep] at r
  case non => simp [r, isNon]
  case bl => simp [r, isNon]
  case int => simp [r, isNon]
  case str => simp [r, isNon]
  case tup => obtain ⟨a, xs, rfl, _⟩ := r; simp [isNon]
  case lst => obtain ⟨a, xs, rfl, _⟩ := r; simp [isNon]
  case scr => obtain ⟨a, rfl, _⟩ := r; simp [isNon]
  case ref => obtain ⟨a, _, rfl⟩ := r; simp [isNon]
theorem notN_rep {m : M} {x : V} (r : Rep K Z α H m x) : (!decide (x = .non)) = !isNon m := by
  rw [isN_rep r]
theorem in_rep {y : V} {n : M} {is : List Int} (s : SR K Z α H S) (ry : Rep K Z α H n y) (e : (seqOf S n).bind intsOf = some is) : ∃ p, y = .ref p ∧ (SqL K H p (is.map V.int) ∨ SqT K H p (is.map V.int)) := by
  obtain ⟨ms, e1, e2⟩ := Option.bind_eq_some_iff.mp e
  obtain ⟨a, xs, rfl, hs, r⟩ := seq_rep s ry e1
  rw [intsOf_map e2] at r
  have := RepL.ints r
  subst this
  exact ⟨a, rfl, hs.imp And.left And.left⟩
theorem in_repB {y : V} {n : M} {is : List Bool} (s : SR K Z α H S) (ry : Rep K Z α H n y) (e : (seqOf S n).bind blsOf = some is) : ∃ p, y = .ref p ∧ (SqL K H p (is.map V.bl) ∨ SqT K H p (is.map V.bl)) := by
  obtain ⟨ms, e1, e2⟩ := Option.bind_eq_some_iff.mp e
  obtain ⟨a, xs, rfl, hs, r⟩ := seq_rep s ry e1
  rw [blsOf_map e2] at r
  have := RepL.bls r
  subst this
  exact ⟨a, rfl, hs.imp And.left And.left⟩
theorem cmp_out {o : Cop} {m n : M} {x y : V} (s : SR K Z α H S) (rx : Rep K Z α H m x) (ry : Rep K Z α H n y) (h : Out K Z mg E (cmpop o m n S) α H (PM K Z Q)) : rCmp K o x y H Q := by
  unfold cmpop at h
  split at h
  · obtain ⟨b, e, h⟩ := h.of
    rcases eqM_scal rx ry e with ⟨e1, e2⟩ | ⟨k, i, hxy, e2⟩
    · refine .inl ⟨e1, ?_⟩
      rw [e2]; exact out_bl s h
    · refine .inr ⟨k, i, hxy, ?_⟩
      rw [if_neg Bool.false_ne_true, e2]; exact out_bl s h
  · obtain ⟨b, e, h⟩ := h.of
    rcases eqM_scal rx ry e with ⟨e1, e2⟩ | ⟨k, i, hxy, e2⟩
    · refine .inl ⟨e1, ?_⟩
      rw [e2]; exact out_bl s h
    · refine .inr ⟨k, i, hxy, ?_⟩
      rw [if_pos rfl, e2]; exact out_bl s h
  · exact ⟨_, _, rep_int rx, rep_int ry, out_bl s h⟩
  · exact ⟨_, _, rep_int rx, rep_int ry, out_bl s h⟩
  · exact ⟨_, _, rep_int rx, rep_int ry, out_bl s h⟩
  · exact ⟨_, _, rep_int rx, rep_int ry, out_bl s h⟩
  · refine ⟨rep_non ry, ?_⟩
    rw [isN_rep rx]; exact out_bl s h
  · refine ⟨rep_non ry, ?_⟩
    rw [notN_rep rx]; exact out_bl s h
  · split at h
    · rename_i l hl
      obtain ⟨n, a, kvs, _, rfl, _, _, ha, hk, r⟩ := dic_rep s ry hl
      refine .inr ⟨a, kvs, _, rfl, key_rep (k := .inl _) rx rfl, ha, ?_⟩
      rw [if_neg Bool.false_ne_true, ← (get_rep _ hk r).1]
      exact out_bl s h
    · obtain ⟨is, e, h⟩ := h.of
      obtain ⟨p, rfl, hs⟩ := in_rep s ry e
      refine .inl ⟨p, _, rfl, hs, by rw [rep_int rx]; rfl, flat_ints is, ?_⟩
      rw [rep_int rx, if_neg (by simp), inV_ints]
      exact out_bl s h
  · split at h
    · rename_i l hl
      obtain ⟨n, a, kvs, _, rfl, _, _, ha, hk, r⟩ := dic_rep s ry hl
      refine .inr ⟨a, kvs, _, rfl, key_rep (k := .inl _) rx rfl, ha, ?_⟩
      rw [if_pos rfl, ← (get_rep _ hk r).1]
      exact out_bl s h
    · obtain ⟨is, e, h⟩ := h.of
      obtain ⟨p, rfl, hs⟩ := in_rep s ry e
      refine .inl ⟨p, _, rfl, hs, by rw [rep_int rx]; rfl, flat_ints is, ?_⟩
      rw [rep_int rx, if_pos rfl, inV_ints]
      exact out_bl s h
  · obtain ⟨l, hl, h⟩ := h.of
    obtain ⟨n, a, kvs, _, rfl, _, _, ha, hk, r⟩ := dic_rep s ry hl
    refine .inr ⟨a, kvs, _, rfl, key_rep (k := .inr _) rx rfl, ha, ?_⟩
    rw [if_neg Bool.false_ne_true, ← (get_rep _ hk r).1]
    exact out_bl s h
  · obtain ⟨l, hl, h⟩ := h.of
    obtain ⟨n, a, kvs, _, rfl, _, _, ha, hk, r⟩ := dic_rep s ry hl
    refine .inr ⟨a, kvs, _, rfl, key_rep (k := .inr _) rx rfl, ha, ?_⟩
    rw [if_pos rfl, ← (get_rep _ hk r).1]
    exact out_bl s h
  · obtain ⟨is, e, h⟩ := h.of
    obtain ⟨p, rfl, hs⟩ := in_repB s ry e
    refine .inl ⟨p, _, rfl, hs, by rw [rep_bl rx]; rfl, flat_bls is, ?_⟩
    rw [rep_bl rx, if_neg (by simp), inV_bls]
    exact out_bl s h
  · obtain ⟨is, e, h⟩ := h.of
    obtain ⟨p, rfl, hs⟩ := in_repB s ry e
    refine .inl ⟨p, _, rfl, hs, by rw [rep_bl rx]; rfl, flat_bls is, ?_⟩
    rw [rep_bl rx, if_pos rfl, inV_bls]
    exact out_bl s h
  · exact False.elim h
end
end Mi

namespace Mi
open PySem PySem.Spec L2
variable [Tabs]
section
variable {K : PySem.W.Frag} {mg : Str → Option Value} {E : XK} {Z α : List Addr} {H : Hp} {S : Store} {Q : VK}

theorem atI_rep {ms : List M} {xs : List V} {i : Int} {m : M} (r : RepL K Z α H ms xs) (e : atI ms i = some m) : ∃ v, atI xs i = some v ∧ Rep K Z α H m v := by
  unfold atI at e ⊢
  obtain ⟨j, e1, e2⟩ := Option.bind_eq_some_iff.mp e
  obtain ⟨x, h1, h2⟩ := r.get e2
  rw [← r.length, e1]
  exact ⟨x, h1, h2⟩
theorem ix_out {a i : M} {x y : V} (s : SR K Z α H S) (rx : Rep K Z α H a x) (ry : Rep K Z α H i y) (h : Out K Z mg E (ixop a i S) α H (PM K Z Q)) : (rIxL K x y H Q ∨ rIxT K x y H Q) ∨ rDIx x y H Q := by
  have dic : ∀ {l : List (Key × M)} {k : Key}, dicOf S a = some l → keyM i = some k → Out K Z mg E (.of (getK l k) fun m => .ok m S) α H (PM K Z Q) → rDIx x y H Q := fun {l k} hl hk h => by
    obtain ⟨m, e2, h⟩ := h.of
    obtain ⟨n, p, kvs, _, rfl, _, _, ha, hks, r⟩ := dic_rep s rx hl
    obtain ⟨v, e3, rv⟩ := (get_rep k hks r).2 m e2
    exact ⟨p, kvs, k, v, rfl, key_rep ry hk, ha, e3, out_val s rv h⟩
  unfold ixop at h
  split at h
  · split at h
    · rename_i l hl
      exact .inr (dic hl rfl h)
    · obtain ⟨ms, e1, h⟩ := h.of
      obtain ⟨m, e2, h⟩ := h.of
      obtain ⟨p, xs, rfl, hs, r⟩ := seq_rep s rx e1
      obtain ⟨v, e3, rv⟩ := atI_rep r e2
      have q := out_val s rv h
      rcases hs with ⟨hs, _⟩ | ⟨hs, _⟩
      · exact .inl (.inl ⟨p, xs, _, v, rfl, rep_int ry, hs, e3, q⟩)
      · exact .inl (.inr ⟨p, xs, _, v, rfl, rep_int ry, hs, e3, q⟩)
  · obtain ⟨l, hl, h⟩ := h.of
    exact .inr (dic hl rfl h)
  · exact False.elim h
/-! ### truth -/
theorem empty_rep {ms : List M} {xs : List V} (r : RepL K Z α H ms xs) : (!ms.isEmpty) = !xs.isEmpty := by
  have := r.length
  cases ms <;> cases xs <;> simp_all
theorem truth_rep {m : M} {x : V} {b : Bool} (s : SR K Z α H S) (r : Rep K Z α H m x) (e : truth S m = some b) : TruV K x H b := by
  cases m with
  | non => rw [rep_non r]; simp only [truth, Option.some.injEq] at e; subst e; rfl
  | bl c => rw [rep_bl r]; simp only [truth, Option.some.injEq] at e; subst e; rfl
  | int c => rw [rep_int r]; simp only [truth, Option.some.injEq] at e; subst e; rfl
  | str c =>
    rw [rep_str r]; simp only [truth] at e
    split at e
    · have := big_line
      simp only [Option.some.injEq] at e
      exact ⟨by omega, e.symm⟩
    · cases e
  | tup ms =>
    simp only [truth, Option.some.injEq] at e; subst e
    simp only [Rep] at r
    obtain ⟨a, xs, rfl, h, q⟩ := r
    exact .inr (.inl ⟨xs, h, empty_rep q⟩)
  | lst ms =>
    simp only [truth, Option.some.injEq] at e; subst e
    simp only [Rep] at r
    obtain ⟨a, xs, rfl, h, _, q⟩ := r
    exact .inl ⟨xs, .of h, empty_rep q⟩
  | scr ns => simp [truth] at e
  | ref n =>
    have hl : ∃ ms, lstOf S (.ref n) = some ms ∧ b = !ms.isEmpty := by
      simp only [truth] at e
      simp only [lstOf]
      split at e
      · simp only [Option.some.injEq] at e; exact ⟨_, rfl, e.symm⟩
      · cases e
    obtain ⟨ms, hl, rfl⟩ := hl
    obtain ⟨a, xs, rfl, h, q⟩ := lst_rep s r hl
    exact .inl ⟨xs, .of h, empty_rep q⟩
/-! ### slices -/
theorem cut_rep {ms : List M} {xs : List V} (lo hi : Option Int) (r : RepL K Z α H ms xs) : RepL K Z α H (cutM ms lo hi) (cutV xs lo hi) := by
  unfold cutM cutV
  rw [r.length]
  exact (r.drop _).take _
theorem cut_len (xs : List V) (lo hi : Option Int) : (cutV xs lo hi).length ≤ xs.length := cutV_length xs lo hi
/-! ### built-in calls -/
omit [Tabs] in
theorem isort_ins (a : Int) : ∀ l : List Int, (insI a l).Perm (a :: l)
  | [] => .refl _
  | b :: r => by
    unfold insI
    split
    · exact .refl _
    · exact (List.Perm.cons b (isort_ins a r)).trans (List.Perm.swap a b r)
omit [Tabs] in
theorem isort_perm : ∀ l : List Int, (isort l).Perm l
  | [] => .refl _
  | a :: r => (isort_ins a (isort r)).trans (List.Perm.cons a (isort_perm r))
omit [Tabs] in
theorem insI_sorted (a : Int) : ∀ l : List Int, l.Pairwise (· ≤ ·) → (insI a l).Pairwise (· ≤ ·)
  | [], _ => by simp [insI]
  | b :: r, h => by
    unfold insI
    obtain ⟨h1, h2⟩ := List.pairwise_cons.mp h
    split
    · rename_i hab
      refine List.pairwise_cons.mpr ⟨fun c hc => ?_, h⟩
      rcases List.mem_cons.mp hc with rfl | hc
      · exact hab
      · exact Int.le_trans hab (h1 c hc)
    · rename_i hab
      refine List.pairwise_cons.mpr ⟨fun c hc => ?_, insI_sorted a r h2⟩
      rcases List.mem_cons.mp ((isort_ins a r).mem_iff.mp hc) with rfl | hc
      · omega
      · exact h1 c hc
omit [Tabs] in
theorem isort_sorted : ∀ l : List Int, (isort l).Pairwise (· ≤ ·)
  | [] => .nil
  | a :: r => insI_sorted a _ (isort_sorted r)
omit [Tabs] in
theorem isort_same {l l' : List Int} (p : l'.Perm l) (s : l'.Pairwise (· ≤ ·)) : l' = isort l := PySem.W.ksm_same (p.trans (isort_perm l).symm) s (isort_sorted l)
omit [Tabs] in
theorem maxZ_le : ∀ (l : List Int) (y : Int), y ∈ l → y ≤ maxZ l
  | [a], y, h => by simp at h; subst h; exact Int.le_refl _
  | a :: b :: r, y, h => by
    have ih := maxZ_le (b :: r)
    rw [maxZ]
    rcases List.mem_cons.mp h with rfl | h
    · omega
    · have := ih y h; omega
    · simp
omit [Tabs] in
theorem maxZ_mem : ∀ (l : List Int), l ≠ [] → maxZ l ∈ l
  | [a], _ => by simp [maxZ]
  | a :: b :: r, _ => by
    have ih := maxZ_mem (b :: r) (by simp)
    rw [maxZ]
    · by_cases h : a ≤ maxZ (b :: r)
      · rw [Int.max_eq_right h]; exact List.mem_cons_of_mem _ ih
      · rw [Int.max_eq_left (by omega)]; simp
    · simp
omit [Tabs] in
theorem minZ_le : ∀ (l : List Int) (y : Int), y ∈ l → minZ l ≤ y
  | [a], y, h => by simp at h; subst h; exact Int.le_refl _
  | a :: b :: r, y, h => by
    have ih := minZ_le (b :: r)
    rw [minZ]
    rcases List.mem_cons.mp h with rfl | h
    · omega
    · have := ih y h; omega
    · simp
omit [Tabs] in
theorem minZ_mem : ∀ (l : List Int), l ≠ [] → minZ l ∈ l
  | [a], _ => by simp [minZ]
  | a :: b :: r, _ => by
    have ih := minZ_mem (b :: r) (by simp)
    rw [minZ]
    · by_cases h : a ≤ minZ (b :: r)
      · rw [Int.min_eq_left h]; simp
      · rw [Int.min_eq_right (by omega)]; exact List.mem_cons_of_mem _ ih
    · simp
omit [Tabs] in
/-- the name, the value of a built-in -/
def Bi.name : Bi → String
  | .abs => "abs"
  | .max => "max"
  | .min => "min"
  | .int => "int"
  | .len => "len"
  | .sum => "sum"
  | .list _ => "list"
  | .tuple => "tuple"
  | .sorted _ => "sorted"
  | .maxL => "max"
  | .minL => "min"
  | .str => "str"
  | .dict => "dict"
omit [Tabs] in
def Bi.isT : Bi → Bool
  | .int => true
  | .list _ => true
  | .tuple => true
  | .str => true
  | .dict => true
  | _ => false
def rBi (K : PySem.W.Frag) : Bi → List V → Hp → VK → Prop
  | .abs => fun xs H Q => ∃ i, xs = [.int i] ∧ Q (.int (if i < 0 then -i else i)) H
  | .max => fun xs H Q => (∃ i j, xs = [.int i, .int j] ∧ Q (.int (if j > i then j else i)) H) ∨ rMax3 xs H Q
  | .min => fun xs H Q => ∃ i j, xs = [.int i, .int j] ∧ Q (.int (if j < i then j else i)) H
  | .int => fun xs H Q => ((∃ i, xs = [.int i] ∧ Q (.int i) H) ∨ ∃ k, xs = [.bl k] ∧ Q (.int (if k then 1 else 0)) H) ∨ ∃ a n, xs = [.str a] ∧ PySem.intText? a = some n ∧ a.length ≤ 640 ∧ Q (.int n) H
  | .len => fun xs H Q => (∃ p ys, xs = [.ref p] ∧ (SqL K H p ys ∨ SqT K H p ys) ∧ Q (.int ys.length) H) ∨ (∃ z, xs = [.str z] ∧ z.length ≤ sizeLine ∧ Q (.int z.length) H)
  | .sum => rSum K
  | .list _ => fun xs H Q => ∃ p ys, xs = [.ref p] ∧ (SqL K H p ys ∨ SqT K H p ys) ∧ ∀ l, H l = none → Q (.ref l) (upd H l (.lst ys))
  | .tuple => fun xs H Q => ∃ p ys, xs = [.ref p] ∧ ((SqL K H p ys ∧ ∀ l, H l = none → Q (.ref l) (upd H l (.tup ys))) ∨ (SqT K H p ys ∧ Q (.ref p) H))
  | .sorted _ => fun xs H Q => (rSorted K xs H Q ∨ rSTup K xs H Q) ∨ rSIntT K xs H Q
  | .maxL => rMax K
  | .minL => rMin K
  | .str => fun xs H Q => ∃ i, xs = [.int i] ∧ i.natAbs.log2 < 1920 ∧ Q (.str (toString i)) H
  | .dict => fun xs H Q => ∃ (a : Addr) (ps : List Addr) (kvs : List (Key × V)), xs = [.ref a] ∧ SqL K H a (ps.map V.ref) ∧ Paired (fun p kv => SqT K H p [kV kv.1, kv.2]) ps kvs ∧ ∀ p, H p = none → Q (.ref p) (upd H p (.dK (mergeK [] kvs)))
omit [Tabs] in
def Bi.val (b : Bi) : Value := if b.isT = true then .type b.name else .builtin b.name
theorem call_bi {X : Cx} (hc : X.calm = true) (b : Bi) : CallR X b.val (rBi X.K b) := by
  cases b with
  | abs => exact call_abs
  | max => exact CallR.or (call_max2 hc) (call_max3 hc)
  | min => exact call_min2 hc
  | int => exact CallR.or call_int1 call_int_str
  | len => exact CallR.or call_len_seq call_len_str
  | sum => exact cr_sum hc
  | list al => exact call_list_of
  | tuple => exact call_tuple_of
  | sorted al => exact CallR.or (CallR.or cr_sorted cr_sTup) cr_sIntT
  | maxL => exact cr_max hc
  | minL => exact cr_min hc
  | str => exact call_str_int
  | dict => exact call_dictP hc
theorem repl1 {m : M} {xs : List V} (r : RepL K Z α H [m] xs) : ∃ x, xs = [x] ∧ Rep K Z α H m x := by
  simp only [RepL] at r
  obtain ⟨x, r', rfl, h, rfl⟩ := r
  exact ⟨x, rfl, h⟩
theorem repl2 {m n : M} {xs : List V} (r : RepL K Z α H [m, n] xs) : ∃ x y, xs = [x, y] ∧ Rep K Z α H m x ∧ Rep K Z α H n y := by
  simp only [RepL] at r
  obtain ⟨x, r', rfl, h, y, r2, rfl, h2, rfl⟩ := r
  exact ⟨x, y, rfl, h, h2⟩
theorem ints_rep {x : V} {n : M} {is : List Int} (s : SR K Z α H S) (r : Rep K Z α H n x) (e : (lstOf S n).bind intsOf = some is) : ∃ p, x = .ref p ∧ H p = some (.lst (is.map V.int)) := by
  obtain ⟨ms, e1, e2⟩ := Option.bind_eq_some_iff.mp e
  obtain ⟨a, xs, rfl, hs, r⟩ := lst_rep s r e1
  rw [intsOf_map e2] at r
  have := RepL.ints r
  subst this
  exact ⟨a, rfl, hs⟩
/-! ### sorted tuples -/
omit [Tabs] in
theorem code_inj {B : Int} : ∀ {a b : List Int}, a.length = b.length → TS.Bd B a → TS.Bd B b → TS.code B a = TS.code B b → a = b
  | [], [], _, _, _, _ => rfl
  | [], _ :: _, h, _, _, _ => by cases h
  | _ :: _, [], h, _, _, _ => by cases h
  | d :: r, e :: q, h, h1, h2, he => by
    have hl : r.length = q.length := by simpa using h
    rcases Int.lt_trichotomy d e with c | c | c
    · have := TS.code_lt hl h1.tail h2.tail c
      omega
    · subst c
      have n1 : ¬ TS.code B r < TS.code B q := fun hh => by have := (TS.code_same (B := B) (d := d) hl).mpr hh; omega
      have n2 : ¬ TS.code B q < TS.code B r := fun hh => by have := (TS.code_same (B := B) (d := d) hl.symm).mpr hh; omega
      rw [code_inj hl h1.tail h2.tail (by omega)]
    · have := TS.code_lt hl.symm h2.tail h1.tail c
      omega
omit [Tabs] in
theorem tIns_perm (a : List Int) : ∀ l : List (List Int), (tIns a l).Perm (a :: l)
  | [] => List.Perm.refl _
  | b :: r => by
    unfold tIns
    split
    · exact List.Perm.refl _
    · exact (List.Perm.cons b (tIns_perm a r)).trans (List.Perm.swap a b r)
omit [Tabs] in
theorem tsort_perm : ∀ l : List (List Int), (tsort l).Perm l
  | [] => List.Perm.refl _
  | a :: r => (tIns_perm a (tsort r)).trans (List.Perm.cons a (tsort_perm r))
omit [Tabs] in
theorem tIns_sorted (a : List Int) : ∀ l : List (List Int), l.Pairwise (fun u v => TS.code tupBd u ≤ TS.code tupBd v) → (tIns a l).Pairwise (fun u v => TS.code tupBd u ≤ TS.code tupBd v)
  | [], _ => by simp [tIns]
  | b :: r, h => by
    obtain ⟨h1, h2⟩ := List.pairwise_cons.mp h
    unfold tIns
    split
    · rename_i hab
      refine List.pairwise_cons.mpr ⟨fun c hc => ?_, h⟩
      rcases List.mem_cons.mp hc with rfl | hc
      · exact hab
      · exact Int.le_trans hab (h1 c hc)
    · refine List.pairwise_cons.mpr ⟨fun c hc => ?_, tIns_sorted a r h2⟩
      rcases List.mem_cons.mp ((tIns_perm a r).mem_iff.mp hc) with rfl | hc
      · omega
      · exact h1 c hc
omit [Tabs] in
theorem tsort_sorted : ∀ l : List (List Int), (tsort l).Pairwise (fun u v => TS.code tupBd u ≤ TS.code tupBd v)
  | [] => List.Pairwise.nil
  | a :: r => tIns_sorted a _ (tsort_sorted r)
omit [Tabs] in
theorem map_inj_list {l l' : List (List Int)} {d : Nat} (h : ∀ t ∈ l, t.length = d ∧ TS.Bd tupBd t) (h' : ∀ t ∈ l', t.length = d ∧ TS.Bd tupBd t) (e : l.map (TS.code tupBd) = l'.map (TS.code tupBd)) : l = l' := by
  induction l generalizing l' with
  | nil => cases l' with | nil => rfl | cons b r => cases e
  | cons a l ih =>
    cases l' with
    | nil => cases e
    | cons b r =>
      obtain ⟨e1, e2⟩ := List.cons.inj e
      have p1 := h a List.mem_cons_self
      have p2 := h' b List.mem_cons_self
      rw [code_inj (p1.1.trans p2.1.symm) p1.2 p2.2 e1, ih (fun t ht => h t (List.mem_cons_of_mem _ ht)) (fun t ht => h' t (List.mem_cons_of_mem _ ht)) e2]
omit [Tabs] in
theorem tsort_same {l l' : List (List Int)} {d : Nat} (h : ∀ t ∈ l, t.length = d ∧ TS.Bd tupBd t) (p : l'.Perm l) (s : l'.Pairwise (fun u v => TS.code tupBd u ≤ TS.code tupBd v)) : l' = tsort l := by
  refine map_inj_list (d := d) (fun t ht => h t (p.mem_iff.mp ht)) (fun t ht => h t ((tsort_perm l).mem_iff.mp ht)) ?_
  exact PySem.W.ksm_same ((p.trans (tsort_perm l).symm).map _) (List.pairwise_map.mpr s) (List.pairwise_map.mpr (tsort_sorted l))
omit [Tabs] in
theorem tOk_of {ts : List (List Int)} (h : tOk ts = true) : ts.length < 64 ∧ 1 ≤ (ts.headD [0]).length ∧ ∀ t ∈ ts, t.length = (ts.headD [0]).length ∧ TS.Bd tupBd t := by
  unfold tOk at h
  simp only [Bool.and_eq_true, decide_eq_true_eq, List.all_eq_true] at h
  obtain ⟨⟨h1, h2⟩, h3⟩ := h
  refine ⟨h1, h2, fun t ht => ⟨(h3 t ht).1, fun m hm => ?_⟩⟩
  have := (h3 t ht).2 m hm
  unfold tupBd
  omega
theorem tups_rep : ∀ {ms : List M} {xs : List V} {ts : List (List Int)}, RepL K Z α H ms xs → tupsOf ms = some ts → ∃ L : List (Addr × List Int), xs = L.map (fun p => V.ref p.1) ∧ ts = L.map (·.2) ∧ (∀ p ∈ L, SqT K H p.1 (p.2.map V.int)) ∧ ∀ p ∈ L, Rep K Z α H (.tup (p.2.map M.int)) (.ref p.1)
  | [], xs, ts, r, e => by
    simp only [tupsOf, Option.some.injEq] at e
    subst e
    simp only [RepL] at r
    subst r
    exact ⟨[], rfl, rfl, by simp, by simp⟩
  | m :: ms, xs, ts, r, e => by
    have hm : ∃ l, m = .tup l := by
      unfold tupsOf at e
      split at e
      · rename_i q; cases q
      · rename_i q; cases q; exact ⟨_, rfl⟩
      · cases e
    obtain ⟨l, rfl⟩ := hm
    simp only [tupsOf] at e
    obtain ⟨t, e1, e⟩ := Option.bind_eq_some_iff.mp e
    obtain ⟨ts', e2, rfl⟩ := Option.map_eq_some_iff.mp e
    simp only [RepL] at r
    obtain ⟨x, xr, rfl, r1, r2⟩ := r
    have r0 := r1
    simp only [Rep] at r1
    obtain ⟨a, ys, rfl, hs, r1⟩ := r1
    obtain ⟨L, rfl, rfl, h1, h2⟩ := tups_rep r2 e2
    have el := intsOf_map e1
    rw [el] at r1 r0
    have := RepL.ints r1
    subst this
    refine ⟨(a, t) :: L, rfl, rfl, fun p hp => ?_, fun p hp => ?_⟩
    · rcases List.mem_cons.mp hp with rfl | hp
      · exact hs
      · exact h1 p hp
    · rcases List.mem_cons.mp hp with rfl | hp
      · exact r0
      · exact h2 p hp
theorem bi_out {b : Bi} {ms : List M} {xs : List V} (s : SR K Z α H S) (r : RepL K Z α H ms xs) (h : Out K Z mg E (biop b ms S) α H (PM K Z Q)) : rBi K b xs H Q := by
  unfold biop at h
  split at h
  · obtain ⟨x, rfl, rx⟩ := repl1 r
    exact ⟨_, by rw [rep_int rx], out_int s h⟩
  · obtain ⟨x, y, rfl, rx, ry⟩ := repl2 r
    exact .inl ⟨_, _, by rw [rep_int rx, rep_int ry], out_int s h⟩
  · obtain ⟨x, y, rfl, rx, ry⟩ := repl2 r
    exact ⟨_, _, by rw [rep_int rx, rep_int ry], out_int s h⟩
  · obtain ⟨x, rfl, rx⟩ := repl1 r
    exact .inl (.inl ⟨_, by rw [rep_int rx], out_int s h⟩)
  · obtain ⟨x, rfl, rx⟩ := repl1 r
    exact .inl (.inr ⟨_, by rw [rep_bl rx], out_int s h⟩)
  · obtain ⟨x, rfl, rx⟩ := repl1 r
    obtain ⟨c, h⟩ := h.when
    obtain ⟨n, e, h⟩ := h.of
    exact .inr ⟨_, n, by rw [rep_str rx], e, c, out_int s h⟩
  · obtain ⟨x, rfl, rx⟩ := repl1 r
    obtain ⟨c, h⟩ := h.when
    have := big_line
    exact .inr ⟨_, by rw [rep_str rx], by omega, out_int s h⟩
  · obtain ⟨x, rfl, rx⟩ := repl1 r
    obtain ⟨ns, e, h⟩ := h.of
    obtain ⟨a, ys, rfl, hs, q⟩ := seq_rep s rx e
    refine .inl ⟨a, ys, rfl, hs.imp And.left And.left, ?_⟩
    rw [← q.length]; exact out_int s h
  · obtain ⟨x, rfl, rx⟩ := repl1 r
    obtain ⟨is, e, h⟩ := h.of
    obtain ⟨p, rfl, hp⟩ := ints_rep s rx e
    exact ⟨p, is, rfl, .of hp, out_int s h⟩
  · obtain ⟨x, rfl, rx⟩ := repl1 r
    obtain ⟨ns, e, h⟩ := h.of
    obtain ⟨a, ys, rfl, hs, q⟩ := seq_rep s rx e
    exact ⟨a, ys, rfl, hs.imp And.left And.left, fun p hp => Out.mkL s q hp h⟩
  · obtain ⟨x, rfl, rx⟩ := repl1 r
    obtain ⟨ns, e, h⟩ := h.of
    obtain ⟨a, ys, rfl, hs, q⟩ := seq_rep s rx e
    refine ⟨a, ys, rfl, ?_⟩
    rcases hs with ⟨hs, _⟩ | ⟨hs, em⟩
    · exact .inl ⟨hs, fun p hp => Out.mkT s q hp h⟩
    · refine .inr ⟨hs, out_val s ?_ h⟩
      rw [em] at rx; exact rx
  · obtain ⟨x, rfl, rx⟩ := repl1 r
    split at h
    · rename_i is e
      obtain ⟨c, h⟩ := h.when
      obtain ⟨p, rfl, hp⟩ := in_rep s rx e
      rcases hp with hp | hp
      · refine .inl (.inl ⟨p, is, rfl, hp, c, fun ns' q pm so hq => ?_⟩)
        rw [isort_same pm so]
        exact Out.mkL s (RepL.of_ints _) hq h
      · refine .inr ⟨p, is, rfl, hp, c, fun ns' q pm so hq => ?_⟩
        rw [isort_same pm so]
        exact Out.mkL s (RepL.of_ints _) hq h
    · obtain ⟨ts, e, h⟩ := h.of
      obtain ⟨c, h⟩ := h.when
      obtain ⟨ns, e1, e2⟩ := Option.bind_eq_some_iff.mp e
      obtain ⟨a, ys, rfl, hs, q⟩ := seq_rep s rx e1
      obtain ⟨L, rfl, rfl, h1, h2⟩ := tups_rep q e2
      obtain ⟨c1, c2, c3⟩ := tOk_of c
      refine .inl (.inr ⟨a, L, _, tupBd, rfl, hs.imp And.left And.left, h1, by simpa using c1, c2, fun p hp => c3 _ (List.mem_map.mpr ⟨p, hp, rfl⟩), fun L' p pm pw hp => ?_⟩)
      have e3 : L'.map (·.2) = tsort (L.map (·.2)) := tsort_same c3 (pm.map _) (List.pairwise_map.mpr pw)
      rw [← e3] at h
      refine Out.mkL s ?_ hp h
      have go : ∀ l : List (Addr × List Int), (∀ p ∈ l, Rep K Z α H (.tup (p.2.map M.int)) (.ref p.1)) → RepL K Z α H ((l.map (·.2)).map fun t => .tup (t.map M.int)) (l.map fun p => V.ref p.1) := by
        intro l
        induction l with
        | nil => intro _; simp only [List.map_nil, RepL]
        | cons p l ih =>
          intro hh
          simp only [List.map_cons, RepL]
          exact ⟨_, _, rfl, hh p List.mem_cons_self, ih fun q hq => hh q (List.mem_cons_of_mem _ hq)⟩
      exact go L' fun p hp => h2 p (pm.mem_iff.mp hp)
  · obtain ⟨x, rfl, rx⟩ := repl1 r
    obtain ⟨is, e, h⟩ := h.of
    obtain ⟨c, h⟩ := h.when
    obtain ⟨p, rfl, hp⟩ := ints_rep s rx e
    refine ⟨p, is, rfl, .of hp, c, fun m hm hle => ?_⟩
    have ne : is ≠ [] := fun z => by rw [z] at c; cases c
    have : m = maxZ is := Int.le_antisymm (maxZ_le is m hm) (hle _ (maxZ_mem is ne))
    rw [this]; exact out_int s h
  · obtain ⟨x, rfl, rx⟩ := repl1 r
    obtain ⟨is, e, h⟩ := h.of
    obtain ⟨c, h⟩ := h.when
    obtain ⟨p, rfl, hp⟩ := ints_rep s rx e
    refine ⟨p, is, rfl, .of hp, c, fun m hm hle => ?_⟩
    have ne : is ≠ [] := fun z => by rw [z] at c; cases c
    have : m = minZ is := Int.le_antisymm (hle _ (minZ_mem is ne)) (minZ_le is m hm)
    rw [this]; exact out_int s h
  · simp only [RepL] at r
    obtain ⟨x, _, rfl, rx, y, _, rfl, ry, z, _, rfl, rz, rfl⟩ := r
    exact .inr ⟨_, _, _, by rw [rep_int rx, rep_int ry, rep_int rz], out_int s h⟩
  · obtain ⟨x, rfl, rx⟩ := repl1 r
    obtain ⟨l, e, h⟩ := h.of
    obtain ⟨_, h⟩ := h.when
    obtain ⟨ms, e1, e2⟩ := Option.bind_eq_some_iff.mp e
    obtain ⟨a, xs, rfl, hx, r'⟩ := lst_rep s rx e1
    obtain ⟨ps, kvs, rfl, h1, h2, h3⟩ := pairs_rep r' e2
    obtain ⟨m1, m2⟩ := merge_rep (l := []) (kvs := []) h2 h3 rfl (by simp only [List.map_nil, RepL])
    exact ⟨a, ps, kvs, rfl, .of hx, h1, fun p hp => Out.mkD s m1 m2 hp h⟩
  · obtain ⟨x, rfl, rx⟩ := repl1 r
    obtain ⟨c, h⟩ := h.when
    exact ⟨_, by rw [rep_int rx], by omega, out_str s h⟩
  · exact False.elim h
/-! ### isinstance -/
theorem ty_rep {m : M} {x : V} {t : String} (s : SR K Z α H S) (r : Rep K Z α H m x) (e : tyOf S m = some t) : TyX K H x (.type t) := by
  cases m with
  | non => rw [rep_non r]; simp only [tyOf, Option.some.injEq] at e; subst e; exact .base .non
  | bl c => rw [rep_bl r]; simp only [tyOf, Option.some.injEq] at e; subst e; exact .base (.bl _)
  | int c => rw [rep_int r]; simp only [tyOf, Option.some.injEq] at e; subst e; exact .base (.int _)
  | str c => rw [rep_str r]; simp only [tyOf, Option.some.injEq] at e; subst e; exact .base (.str _)
  | tup ms =>
    simp only [tyOf, Option.some.injEq] at e; subst e
    simp only [Rep] at r
    obtain ⟨a, xs, rfl, h, _⟩ := r
    rcases h with (h | ⟨o, h⟩) | ⟨o, its, n, h1, h2, _⟩
    · exact .base (.tup h)
    · exact .fTuple h
    · exact .kTuple h1 h2
  | lst ms =>
    simp only [tyOf, Option.some.injEq] at e; subst e
    simp only [Rep] at r
    obtain ⟨a, xs, rfl, h, _⟩ := r
    exact .base (.lst h)
  | scr ns => simp [tyOf] at e
  | ref n =>
    have hl : t = "list" ∧ ∃ ms, lstOf S (.ref n) = some ms := by
      simp only [tyOf] at e
      simp only [lstOf]
      split at e
      · simp only [Option.some.injEq] at e; exact ⟨e.symm, _, rfl⟩
      · cases e
    obtain ⟨rfl, ms, hl⟩ := hl
    obtain ⟨a, xs, rfl, h, _⟩ := lst_rep s r hl
    exact .base (.lst h)
omit [Tabs] in
def tyNames : List String := ["NoneType", "bool", "int", "str", "tuple", "list"]
omit [Tabs] in
def clNames : List String := ["bool", "int", "str", "tuple", "list", "dict"]
omit [Tabs] in
theorem kit_all : (tyNames.all fun t => clNames.all fun c => decide (kitB t c = some (isTy t c))) = true := by decide +kernel
omit [Tabs] in
theorem kit_isTy {t c : String} (ht : t ∈ tyNames) (hc : c ∈ clNames) : PySem.W.kitOne K (.type t) (.type c) = some (isTy t c) := by
  have := List.all_eq_true.mp (List.all_eq_true.mp kit_all t ht) c hc
  exact kit_ty (of_decide_eq_true this)
omit [Tabs] in
theorem kit_anyTy {t : String} (ht : t ∈ tyNames) : ∀ {cs : List String}, (∀ c ∈ cs, c ∈ clNames) → PySem.W.kitAny K (.type t) (cs.map Value.type) = some (cs.any (isTy t))
  | [], _ => kitAny_nil
  | c :: cs, h => by
    rw [List.map_cons, List.any_cons]
    refine kitAny_cons (kit_isTy ht (h c List.mem_cons_self)) (fun e => ?_) (fun e => by rw [e]; rfl)
    rw [e, Bool.false_or]
    exact kit_anyTy ht fun d hd => h d (List.mem_cons_of_mem _ hd)
theorem tyOf_mem {m : M} {t : String} (e : tyOf S m = some t) : t ∈ tyNames := by
  cases m with
  | ref n =>
    simp only [tyOf] at e
    split at e
    · simp only [Option.some.injEq] at e; subst e; decide
    · cases e
  | _ => simp only [tyOf, Option.some.injEq, reduceCtorEq] at e <;> subst e <;> decide
end
end Mi

namespace Mi
open PySem PySem.Spec L2

/-! ### statements -/
structure Fn where
  ps : List String
  kw : List (Nat × List Nat)
  ns : Nat
  body : Sms
/-- a text: its defs, its constants, its exceptions with their fields -/
structure Tx where
  fn : String → Option Fn
  cs : String → Option Kon
  xs : String → Option (List String)
  ce : Bool
instance : CoeFun Tx (fun _ => String → Option Fn) := ⟨Tx.fn⟩
def R.caught {τ : Type} (r : R τ) (f : Ex → Store → R τ) : R τ := match r with
  | .ok a S => .ok a S
  | .exc x S => f x S
  | .bad => .bad
@[simp] theorem R.caught_ok {τ : Type} (a : τ) (S : Store) (f : Ex → Store → R τ) : (R.ok a S).caught f = .ok a S := rfl
@[simp] theorem R.caught_exc {τ : Type} (x : Ex) (S : Store) (f : Ex → Store → R τ) : (R.exc x S).caught f = f x S := rfl
@[simp] theorem R.caught_bad {τ : Type} (f : Ex → Store → R τ) : (R.bad : R τ).caught f = .bad := rfl
def xsub (c d : String) : Bool := c == d || d == "ComeError"
def Sa.ev (x : Ex) : Sa → Option M
  | .con k => some k.m
  | .fld f => x.fs.lookup f
def Sas.ev (x : Ex) : List Sa → Option (List M)
  | [] => some []
  | a :: r => (a.ev x).bind fun m => (Sas.ev x r).map (m :: ·)
def Sr.ev (x : Ex) : Sr → Option M
  | .one a => a.ev x
  | .tup l => (Sas.ev x l).map .tup
/-- a clause's suite: its first test, if any, must hold -/
def Cz.ev (h : Cz) (x : Ex) : Option M := match h.is with
  | none => h.r.ev x
  | some (c, _) => if x.cls = c then h.r.ev x else none
def handle : List Cz → Ex → Store → R F
  | [], x, S => .exc x S
  | h :: r, x, S => if xsub x.cls h.cls = true then .of (h.ev x) fun m => .ok (.ret m) S else handle r x S
def lim : Nat := 1000000000
/-- name op= value -/
def augop (o : Bop) (a b : M) (S : Store) : R M := match o, a, b with
  | .add, .int i, .int j => .ok (.int (i + j)) S
  | .sub, .int i, .int j => .ok (.int (i - j)) S
  | _, _, _ => .bad
/-- of a list only -/
def ixlop (a i : M) (S : Store) : R M := match i with
  | .int i => .of (lstOf S a) fun ms => .of (atI ms i) fun m => .ok m S
  | _ => .bad
section
variable (call : String → List M → Store → R M)
mutual
def ex : Sm → Env → Store → R F
  | .set i e, γ, S => (ev call e γ S).bind fun m S => .ok (.nx (γ.set i (some m))) S
  | .unp l e, γ, S => (ev call e γ S).bind fun m S => .of (bindT (.tu l) m γ) fun γ1 => .ok (.nx γ1) S
  | .par l es, γ, S => (evs call es γ S).bind fun ms S => .when (ms.length = l.length) (.ok (.nx (bindT.go l ms γ)) S)
  | .seti o i e, γ, S => (ev call e γ S).bind fun m S => (ev call o γ S).bind fun x S => (ev call i γ S).bind fun y S => (setiop x y m S).bind fun _ S => .ok (.nx γ) S
  | .augi op a i e, γ, S => (ev call a γ S).bind fun x S => (ev call i γ S).bind fun y S => (ixlop x y S).bind fun z S => (ev call e γ S).bind fun u S =>
      (augop op z u S).bind fun r S => (setiop x y r S).bind fun _ S => .ok (.nx γ) S
  | .aug op i e, γ, S => match γ[i]? with
    | some (some z) => (ev call e γ S).bind fun u S => (augop op z u S).bind fun r S => .ok (.nx (γ.set i (some r))) S
    | _ => .bad
  | .exp e, γ, S => (ev call e γ S).bind fun _ S => .ok (.nx γ) S
  | .ret e, γ, S => (ev call e γ S).bind fun m S => .ok (.ret m) S
  | .retN, _, S => .ok (.ret .non) S
  | .ife t a b, γ, S => (evT call t γ S).bind fun c S => if c = true then exs a γ S else exs b γ S
  | .for_ tg it b, γ, S => (evI call it γ S).bind fun s S => forLoop s (fun x γ S => .of (bindT tg x γ) fun γ1 => exs b γ1 S) s.items γ S
  | .while_ t b, γ, S => whileLoop (evT call t) (fun γ S => exs b γ S) lim γ S
  | .brk, γ, S => .ok (.brk γ) S
  | .cnt, γ, S => .ok (.cnt γ) S
  | .pass, γ, S => .ok (.nx γ) S
  | .raise c fs es, γ, S => (evs call es γ S).bind fun ms S => .when (ms.length = fs.length) (.exc ⟨c, fs.zip ms⟩ S)
  | .try_ ks b hs, γ, S => (exs b γ S).caught fun x S => .when (x.cls ∈ ks) (handle hs x S)
  | .swp o i p j a b, γ, S => (ev call a γ S).bind fun u S => (ev call b γ S).bind fun w S => (ev call o γ S).bind fun x S => (ev call i γ S).bind fun y S => (setiop x y u S).bind fun _ S =>
      (ev call p γ S).bind fun x S => (ev call j γ S).bind fun y S => (setiop x y w S).bind fun _ S => .ok (.nx γ) S
termination_by structural x => x
def exs : Sms → Env → Store → R F
  | .nil, γ, S => .ok (.nx γ) S
  | .cons a r, γ, S => (ex a γ S).bind fun f S => match f with
    | .nx γ1 => exs r γ1 S
    | f => .ok f S
termination_by structural x => x
end
end
def fin (f : F) (S : Store) : R M := match f with
  | .ret m => .ok m S
  | .nx _ => .ok .non S
  | _ => .bad
def evalFn (Φ : Tx) : Nat → String → List M → Store → R M
  | 0, _, _, _ => .bad
  | k + 1, f, ms, S => match Φ f with
    | none => .bad
    | some d => .when (ms.length = d.ps.length) ((exs (evalFn Φ k) d.body (ms.map some ++ List.replicate (d.ns - d.ps.length) none) S).bind fin)

section
variable {K : PySem.W.Frag} {mg : Str → Option Value} {E : XK} {Z α : List Addr} {H : Hp} {S : Store} {Q : VK}
variable [Tabs]
/-! ### objects of the store are written -/
theorem Tr.put {n : Nat} {a : Addr} {u : HO} (s : SR K Z α H S) (ha : α[n]? = some a) : Tr α H α (upd H a u) := by
  have hm : a ∈ α := List.mem_of_getElem? ha
  refine ⟨fun b o h hb _ => by rw [upd_ne (show b ≠ a from fun e => hb (by rw [e]; exact hm))]; exact h, fun b ps h => ⟨ps, ?_, id⟩, ⟨[], by simp, by simp⟩, fun b hb => ?_⟩
  · obtain ⟨u, e, m⟩ := s.muts a hm
    rw [upd_ne (show b ≠ a from fun z => by rw [← z, h] at e; cases e; exact m)]; exact h
  by_cases e : b = a
  · rw [e, upd_same]; exact fun z => by cases z
  · rw [upd_ne e]; exact s.live b hb
theorem SR.putO {n : Nat} {a : Addr} {w : HO} {ob : O} (s : SR K Z α H S) (ha : α[n]? = some a) (r : ObjR K Z α (upd H a w) a ob) : SR K Z α (upd H a w) (S.set n ob) := by
  have t := Tr.put (u := w) s ha
  refine ⟨s.nd, by simp [s.len], fun k o e => ?_, fun a ha => s.zkeep t ha, fun a ha => (s.tb a ha).tr t⟩
  by_cases hk : n = k
  · subst hk
    have hn : n < S.length := by rw [← s.len]; exact (List.getElem?_eq_some_iff.mp ha).1
    rw [List.getElem?_set_self hn] at e
    cases e
    exact ⟨a, ha, r⟩
  · rw [List.getElem?_set_ne hk] at e
    obtain ⟨b, hb, ob⟩ := s.obj k o e
    have hne : b ≠ a := by
      rintro rfl
      obtain ⟨h1, e1⟩ := List.getElem?_eq_some_iff.mp ha
      obtain ⟨h2, e2⟩ := List.getElem?_eq_some_iff.mp hb
      exact hk ((List.getElem_inj s.nd).mp (e1.trans e2.symm))
    exact ⟨b, hb, ob.map (RepL.tr s.muts t) (upd_ne hne)⟩
theorem SR.put {n : Nat} {a : Addr} {xs : List V} {ms : List M} (s : SR K Z α H S) (ha : α[n]? = some a) (r : RepL K Z α H ms xs) : SR K Z α (upd H a (.lst xs)) (S.set n (.lst ms)) :=
  SR.putO s ha ⟨xs, upd_same, RepL.tr s.muts (Tr.put s ha) _ _ r⟩
theorem ref_get {n : Nat} {v : V} {ms : List M} (s : SR K Z α H S) (r : Rep K Z α H (.ref n) v) (e : S[n]? = some (.lst ms)) : ∃ a xs, v = .ref a ∧ α[n]? = some a ∧ H a = some (.lst xs) ∧ RepL K Z α H ms xs := by
  simp only [Rep] at r
  obtain ⟨a, ha, rfl⟩ := r
  obtain ⟨a', ha', ob⟩ := s.obj n _ e
  rw [ha] at ha'; cases ha'
  obtain ⟨xs, hx, q⟩ := ob
  exact ⟨a, xs, rfl, ha, hx, q⟩
theorem out_put {n : Nat} {a : Addr} {xs : List V} {ms : List M} {m : M} {v : V} (s : SR K Z α H S) (ha : α[n]? = some a) (r : RepL K Z α H ms xs) (rv : Rep K Z α H m v)
    (h : Out K Z mg E (.ok m (S.set n (.lst ms))) α H (PM K Z Q)) : Q v (upd H a (.lst xs)) :=
  h α _ (Tr.put s ha) (SR.put s ha r) v (Rep.tr s.muts (Tr.put s ha) m v rv)
/-- what a method asks -/
theorem RepL.eraseIdx : ∀ {ms : List M} {xs : List V} (j : Nat), RepL K Z α H ms xs → RepL K Z α H (ms.eraseIdx j) (xs.eraseIdx j)
  | [], xs, j, r => by
    simp only [RepL] at r
    subst r
    simp [RepL]
  | m :: ms, xs, j, r => by
    simp only [RepL] at r
    obtain ⟨x, xr, rfl, r1, r2⟩ := r
    cases j with
    | zero => simpa using r2
    | succ j =>
      simp only [List.eraseIdx_cons_succ, RepL]
      exact ⟨_, _, rfl, r1, RepL.eraseIdx j r2⟩
def rInsM : V → List V → Hp → VK → Prop := fun x vs H Q => ∃ (l : Addr) (xs : List V) (i : Int) (y : V), x = .ref l ∧ vs = [.int i, y] ∧ H l = some (.lst xs) ∧ xs.length < sizeLine ∧ 0 ≤ i ∧ i < 2 ^ 63 ∧ Q .non (upd H l (.lst (xs.take i.toNat ++ [y] ++ xs.drop i.toNat)))
def rMe : Me → V → List V → Hp → VK → Prop
  | .append => rAppend
  | .pop => fun x vs H Q => rPop x vs H Q ∨ rPopAt x vs H Q
  | .extend => rExtend
  | .insert => rInsM
  | .remove => rRemI
theorem me_out {me : Me} {o : M} {as : List M} {x : V} {ys : List V} (s : SR K Z α H S) (rx : Rep K Z α H o x) (rs : RepL K Z α H as ys) (h : Out K Z mg E (meop me o as S) α H (PM K Z Q)) : rMe me x ys H Q := by
  unfold meop at h
  split at h
  · obtain ⟨ob, e, h⟩ := h.of
    split at h
    rotate_left
    · exact False.elim h
    rename_i n o' xs
    obtain ⟨a, us, rfl, ha, hx, r⟩ := ref_get s rx e
    have hl := r.length
    have bl := big_line
    split at h
    · obtain ⟨c, h⟩ := h.when
      obtain ⟨y, rfl, ry⟩ := repl1 rs
      exact ⟨a, us, y, rfl, rfl, hx, by omega, out_put s ha (r.append (RepL.one ry)) (by simp only [Rep]) h⟩
    · obtain ⟨m, e2, h⟩ := h.of
      simp only [RepL] at rs
      subst rs
      obtain ⟨y, ey, ry⟩ := r.get e2
      exact .inl ⟨a, us, y, rfl, rfl, hx, by rw [← hl]; exact ey, out_put s ha r.dropLast ry h⟩
    · obtain ⟨c, h⟩ := h.when
      obtain ⟨j, ej, h⟩ := h.of
      obtain ⟨m, e2, h⟩ := h.of
      obtain ⟨z, rfl, rz⟩ := repl1 rs
      obtain ⟨y, ey, ry⟩ := r.get e2
      exact .inr ⟨a, us, _, j, y, rfl, by rw [rep_int rz], hx, by omega, by omega, by rw [← hl]; exact ej, ey, out_put s ha (RepL.eraseIdx j r) ry h⟩
    · obtain ⟨y, rfl, ry⟩ := repl1 rs
      split at h
      · obtain ⟨c, h⟩ := h.when
        simp only [Rep] at ry
        obtain ⟨b, zs, rfl, hb, _, rz⟩ := ry
        have hz := rz.length
        exact ⟨a, b, us, zs, rfl, rfl, hx, hb, by omega, out_put s ha (r.append rz) (by simp only [Rep]) h⟩
      · exact False.elim h
    · obtain ⟨⟨c1, c2, c3⟩, h⟩ := h.when
      obtain ⟨z, y, rfl, rz, ry⟩ := repl2 rs
      exact ⟨a, us, _, y, rfl, by rw [rep_int rz], hx, by omega, c1, by omega, out_put s ha (((r.take _).append (RepL.one ry)).append (r.drop _)) (by simp only [Rep]) h⟩
    · obtain ⟨is, e2, h2⟩ := h.of
      obtain ⟨c, h3⟩ := h2.when
      clear h h2
      obtain ⟨z, rfl, rz⟩ := repl1 rs
      have em := intsOf_map e2
      subst em
      rw [r.ints] at hx
      rename_i k
      have hlt := List.idxOf_lt_length_of_mem c
      refine ⟨a, is, _, is.idxOf k, rfl, by rw [rep_int rz], hx, ?_, fun m hm hk => ?_, out_put (m := .non) (v := .non) s ha (RepL.of_ints _) (by simp only [Rep]) h3⟩
      · rw [List.getElem?_eq_getElem hlt, List.getElem_idxOf hlt]
      · obtain ⟨hl', e'⟩ := List.getElem?_eq_some_iff.mp hk
        have := List.not_of_lt_findIdx (p := (· == k)) (xs := is) hm
        simp [e'] at this
    · exact False.elim h
  · exact False.elim h
/-- o[i] = v -/
theorem seti_out {o i m : M} {x y v : V} {P : Hp → Prop} (s : SR K Z α H S) (rx : Rep K Z α H o x) (ry : Rep K Z α H i y) (rv : Rep K Z α H m v)
    (h : Out K Z mg E (setiop o i m S) α H fun _ _ _ H' => P H') : rSetL x y v H P ∨ rDSet x y v H P := by
  unfold setiop at h
  split at h
  · rename_i n
    obtain ⟨ob, e, h⟩ := h.of
    split at h
    · split at h
      · obtain ⟨j, e2, h⟩ := h.of
        obtain ⟨a, us, rfl, ha, hx, r⟩ := ref_get s rx e
        exact .inl ⟨a, us, _, j, rfl, rep_int ry, hx, by rw [← r.length]; exact e2, h α _ (Tr.put s ha) (SR.put s ha (r.set j rv))⟩
      · exact False.elim h
    · rename_i l
      obtain ⟨k, hk, h⟩ := h.of
      obtain ⟨hl, h⟩ := h.when
      have ed : dicOf S (.ref n) = some l := by simp only [dicOf, e]
      obtain ⟨n', a, kvs, en, rfl, ha, _, hx, hks, r⟩ := dic_rep s rx ed
      cases en
      obtain ⟨p1, p2⟩ := put_rep k rv hks r
      have hll : kvs.length = l.length := by simpa using congrArg List.length hks
      have := big_line
      have t := Tr.put (u := .dK (putK kvs k v)) s ha
      exact .inr ⟨a, kvs, k, rfl, key_rep ry hk, hx, by omega, h α _ t (SR.putO s ha ⟨_, upd_same, p1, RepL.tr s.muts t _ _ p2⟩)⟩
  · exact False.elim h
mutual
theorem Rep.noref {β : List Addr} (hb : β = []) : ∀ (m : M) (v : V), m.noref = true → Rep K Z α H m v → Rep K Z β H m v
  | .non, v, _, h => by simpa only [Rep] using h
  | .bl b, v, _, h => by simpa only [Rep] using h
  | .int i, v, _, h => by simpa only [Rep] using h
  | .str s, v, _, h => by simpa only [Rep] using h
  | .scr ns, v, _, h => by
    simp only [Rep] at h ⊢
    obtain ⟨a, e, h⟩ := h
    exact ⟨a, e, h.imp id fun ⟨h, n⟩ => ⟨h, by rw [hb]; simp, n.2⟩⟩
  | .ref n, v, e, h => by simp [M.noref] at e
  | .tup ms, v, e, h => by
    simp only [M.noref] at e
    simp only [Rep] at h ⊢
    obtain ⟨a, xs, rfl, hs, r⟩ := h
    exact ⟨a, xs, rfl, hs, RepL.noref hb ms xs e r⟩
  | .lst ms, v, e, h => by
    simp only [M.noref] at e
    simp only [Rep] at h ⊢
    obtain ⟨a, xs, rfl, hs, n, r⟩ := h
    exact ⟨a, xs, rfl, hs, ⟨by rw [hb]; simp, n.2⟩, RepL.noref hb ms xs e r⟩
theorem RepL.noref {β : List Addr} (hb : β = []) : ∀ (ms : List M) (xs : List V), M.noref.go ms = true → RepL K Z α H ms xs → RepL K Z β H ms xs
  | [], xs, _, h => by simpa only [RepL] using h
  | m :: ms, xs, e, h => by
    simp only [M.noref.go, Bool.and_eq_true] at e
    simp only [RepL] at h ⊢
    obtain ⟨x, r, rfl, h1, h2⟩ := h
    exact ⟨x, r, rfl, Rep.noref hb m x e.1 h1, RepL.noref hb ms r e.2 h2⟩
end
mutual
theorem Rep.plain {β : List Addr} : ∀ (m : M) (v : V), m.plain = true → Rep K Z α H m v → Rep K Z β H m v
  | .non, v, _, h => by simpa only [Rep] using h
  | .bl b, v, _, h => by simpa only [Rep] using h
  | .int i, v, _, h => by simpa only [Rep] using h
  | .str s, v, _, h => by simpa only [Rep] using h
  | .scr ns, v, e, h => by simp [M.plain] at e
  | .ref n, v, e, h => by simp [M.plain] at e
  | .tup ms, v, e, h => by
    simp only [M.plain] at e
    simp only [Rep] at h ⊢
    obtain ⟨a, xs, rfl, hs, r⟩ := h
    exact ⟨a, xs, rfl, hs, RepL.plain ms xs e r⟩
  | .lst ms, v, e, h => by simp [M.plain] at e
theorem RepL.plain {β : List Addr} : ∀ (ms : List M) (xs : List V), M.plain.go ms = true → RepL K Z α H ms xs → RepL K Z β H ms xs
  | [], xs, _, h => by simpa only [RepL] using h
  | m :: ms, xs, e, h => by
    simp only [M.plain.go, Bool.and_eq_true] at e
    simp only [RepL] at h ⊢
    obtain ⟨x, r, rfl, h1, h2⟩ := h
    exact ⟨x, r, rfl, Rep.plain m x e.1 h1, RepL.plain ms r e.2 h2⟩
end
theorem deref_rep {m m' : M} {v : V} (s : SR K Z α H S) (r : Rep K Z α H m v) (e : derefA S m = some m') : Rep K Z [] H m' v := by
  cases m with
  | ref n =>
    simp only [derefA] at e
    split at e
    · rename_i ms hn
      split at e
      · rename_i hc
        simp only [Option.some.injEq] at e
        subst e
        obtain ⟨a, xs, rfl, ha, hx, q⟩ := ref_get s r hn
        simp only [Rep]
        exact ⟨a, xs, rfl, hx, ⟨by simp, fun hz => (s.zs a hz).1 (List.mem_of_getElem? ha)⟩, RepL.noref rfl ms xs hc q⟩
      · cases e
    · cases e
  | _ =>
    simp only [derefA] at e
    split at e
    · simp only [Option.some.injEq] at e
      subst e
      exact Rep.noref rfl _ v (by assumption) r
    · cases e
theorem derefs_rep : ∀ {ms as : List M} {xs : List V}, SR K Z α H S → RepL K Z α H ms xs → derefs S ms = some as → RepL K Z [] H as xs
  | [], as, xs, s, r, e => by simp only [derefs, Option.some.injEq] at e; subst e; simpa only [RepL] using r
  | m :: ms, as, xs, s, r, e => by
    simp only [derefs] at e
    obtain ⟨a, e1, e⟩ := Option.bind_eq_some_iff.mp e
    obtain ⟨bs, e2, rfl⟩ := Option.map_eq_some_iff.mp e
    simp only [RepL] at r ⊢
    obtain ⟨x, q, rfl, h1, h2⟩ := r
    exact ⟨x, q, rfl, deref_rep s h1 e1, derefs_rep s h2 e2⟩
/-- the state behind such a call -/
theorem back {β : List Addr} {H' : Hp} (s : SR K Z α H S) (t : Tr [] H β H') : Tr α H α H' ∧ SR K Z α H' S ∧ (∀ a ∈ β, a ∉ α) := by
  have kp : ∀ a o, H a = some o → NoTb o → H' a = some o := fun a o h nt => t.keep a o h (by simp) nt
  have mt : ∀ {o : HO}, MutO o → NoTb o := fun {o} m => by cases o <;> first | trivial | exact m
  have T : Tr α H α H' := ⟨fun a o h _ nt => kp a o h nt, t.tbl, ⟨[], by simp, by simp⟩, fun a ha => by
    obtain ⟨u, e, m⟩ := s.muts a ha
    rw [kp a u e (mt m)]; exact fun z => by cases z⟩
  refine ⟨T, s.tr T fun a ha => ?_, fun a ha hm => ?_⟩
  · obtain ⟨u, e, m⟩ := s.muts a ha
    rw [kp a u e (mt m), e]
  · obtain ⟨γ, e, hγ⟩ := t.ext
    rw [List.nil_append] at e
    subst e
    exact s.live a hm (hγ a ha)
theorem freeze_rep {β : List Addr} {H' : Hp} {S' : Store} {m m' : M} {v : V} (s' : SR K Z β H' S') (hβ : ∀ a ∈ β, a ∉ α) (r : Rep K Z β H' m v) (e : freeze S' m = some m') : Rep K Z α H' m' v := by
  cases m with
  | ref n =>
    simp only [freeze] at e
    split at e
    · rename_i ms hn
      split at e
      · rename_i hc
        simp only [Option.some.injEq] at e
        subst e
        obtain ⟨a, xs, rfl, ha, hx, q⟩ := ref_get s' r hn
        simp only [Rep]
        exact ⟨a, xs, rfl, hx, ⟨hβ a (List.mem_of_getElem? ha), fun hz => (s'.zs a hz).1 (List.mem_of_getElem? ha)⟩, RepL.plain ms xs hc q⟩
      · cases e
    · cases e
  | _ =>
    simp only [freeze] at e
    split at e
    · simp only [Option.some.injEq] at e
      subst e
      exact Rep.plain _ v (by assumption) r
    · cases e

/-! ### what a def promises -/
def spM (K : PySem.W.Frag) (mg : Str → Option Value) (np : Nat) (f : List M → Store → R M) : Sp := fun vs H Q E =>
  vs.length = np ∧ ∃ Z α S ms, SR K Z α H S ∧ RepL K Z α H ms vs ∧ Out K Z mg E (f ms S) α H (PM K Z Q)
/-- a call, from the caller's side -/
theorem call_out {np : Nat} {call : String → List M → Store → R M} {f : String} {pu : Bool} {ms : List M} {xs : List V} (s : SR K Z α H S) (r : RepL K Z α H ms xs) (hn : xs.length = np)
    (h : Out K Z mg E (callM call pu f ms S) α H (PM K Z Q)) : spM K mg np (call f) xs H Q E := by
  unfold callM at h
  cases pu with
  | false =>
    rw [if_neg (by simp)] at h
    exact ⟨hn, Z, α, S, ms, s, r, h⟩
  | true =>
    rw [if_pos rfl] at h
    obtain ⟨as, e, h⟩ := h.of
    have s0 : SR K Z [] H ([] : Store) := ⟨by simp, rfl, fun n o e => by simp at e, fun a ha => ⟨by simp, (s.zs a ha).2⟩, s.tb⟩
    refine ⟨hn, Z, [], [], as, s0, derefs_rep s r e, ?_⟩
    revert h
    cases hc : call f as [] with
    | bad => exact fun h => False.elim h
    | ok m S' =>
      intro h
      obtain ⟨m', e2, h⟩ := h.of
      intro β H' t s' v rv
      obtain ⟨T, s2, hβ⟩ := back s t
      exact h α H' T s2 v (freeze_rep s' hβ rv e2)
    | exc x S' =>
      intro h
      dsimp only at h
      split at h
      · rename_i hp
        intro β H' cv d t s' er
        obtain ⟨T, s2, hβ⟩ := back s t
        obtain ⟨e1, dd, fs, e2, e3, e4⟩ := er
        refine h α H' cv d T s2 ⟨e1, dd, fs, e2, e3, fun f m hm => ?_⟩
        obtain ⟨v, e5, e6⟩ := e4 f m hm
        exact ⟨v, e5, Rep.plain m v (List.all_eq_true.mp hp (f, m) hm) e6⟩
      · exact False.elim h
end
end Mi

namespace Mi
open PySem PySem.Spec PyProof.Rows L2
open AutoSeq1 (wpAny_loadPart')

/-! ### enumerate over a tuple -/
set_option maxHeartbeats 1000000 in
theorem meets_enumerate_newT (l : Addr) (items : Array Value) (n : Nat) (dct : Option Addr) (sl : Array (Option Value)) :
    Meets (Builtin.«enumerate.__new__» ⟨[.type "enumerate", .ref l], []⟩) (fun _ R s => s.heap.get? l = some { cls := .type "tuple", dict := dct, data := .seq items n, slots := sl } ∧
      R (.ok (.ret (.ref (s.heap.push { cls := .type "tuple_iterator", data := .fields #[.ref l, .int 0 0] }).objs.size)))
        { s with heap := (s.heap.push { cls := .type "tuple_iterator", data := .fields #[.ref l, .int 0 0] }).push { cls := .type "enumerate", data := .fields #[.none, .bool false, .ref s.heap.objs.size, rawInt 0, .none, .none] } }) :=
  .of_wp fun prog w A R s h => by
    obtain ⟨hp, g, d, tk, os⟩ := s; obtain ⟨hl, h⟩ := h
    have hsub := sub_enumerate
    have hL : Heap.IsTuple (Shared.heap ⟨hp, g, d, tk, os⟩) l items := ⟨_, hl, rfl, n, rfl⟩
    wp_walk using wpAny_loadPart' hl
    refine wpAny_stack_any fun st => wpAny_pure ?_
    split
    · rename_i c _ _ _ _ _
      cases (c == Value.type "enumerate")
      · wp_walk using wpAny_loadPart' hl, wpAny_pyIter_tuple hL
        exact ⟨_, rfl, h⟩
      · wp_walk using wpAny_loadPart' hl, wpAny_pyIter_tuple hL
        exact ⟨_, rfl, h⟩
    · wp_walk using wpAny_loadPart' hl, wpAny_pyIter_tuple hL
      exact ⟨_, rfl, h⟩
section
variable {prog : Program} {w : World} {A : Around} {E : Value → Shared → Prop} {s : Shared}
theorem call_enumerate_tuple {l : Addr} {items : Array Value} {Q : Value → Shared → Prop} (hL : s.heap.IsTuple l items)
    (h : ∀ h', IsEnum h' (s.heap.objs.size + 1) s.heap.objs.size 0 .none → h'.IsTupleIter s.heap.objs.size l 0 → h'.objs.size = s.heap.objs.size + 2 →
      (∀ b o, s.heap.get? b = some o → h'.get? b = some o) → Q (.ref (s.heap.objs.size + 1)) { s with heap := h' }) :
    wpAny (model prog w) A (call (.type "enumerate") [.ref l]) Q E s := by
  obtain ⟨⟨c, dct, dt, sl⟩, hl, hc, n, hd⟩ := hL
  replace hc : c = .type "tuple" := hc
  replace hd : dt = .seq items n := hd
  subst hc hd
  refine callType_new F.called_enumerate (by decide) (F.typeCall_enumerate_1 _) (F.newCall_enumerate_1 _) (fun obj => F.args_object_init_2 obj _) F.entry_enumerate_new
    (meets_enumerate_newT l items n dct sl) ⟨hl, ?_⟩
  have hz : (s.heap.push { cls := .type "tuple_iterator", data := .fields #[.ref l, .int 0 0] }).objs.size = s.heap.objs.size + 1 := Heap.size_push ..
  show _ ∧ _
  rw [hz]
  have he : IsEnum ((s.heap.push { cls := .type "tuple_iterator", data := .fields #[.ref l, .int 0 0] }).push
      { cls := .type "enumerate", data := .fields #[.none, .bool false, .ref s.heap.objs.size, rawInt 0, .none, .none] }) (s.heap.objs.size + 1) s.heap.objs.size 0 .none := by
    have := Heap.get?_push_size (s.heap.push { cls := .type "tuple_iterator", data := .fields #[.ref l, .int 0 0] })
      (o := { cls := .type "enumerate", data := .fields #[.none, .bool false, .ref s.heap.objs.size, rawInt 0, .none, .none] }) rfl
    rw [hz] at this; exact this
  refine ⟨⟨_, he, rfl⟩, h _ he ⟨_, Heap.get?_push_of_some _ (Heap.get?_push_size _ rfl), rfl, rfl⟩ (by rw [Heap.size_push, hz]) fun b o x => Heap.get?_push_of_some _ (Heap.get?_push_of_some _ x)⟩
end
theorem wpAny_pyNext_enum_endT {prog : Program} {w : World} {A : Around} {E : Value → Shared → Prop} {s : Shared} {e it l : Addr} {i : Nat} {items : Array Value} {old : Value} {Q : Option Value → Shared → Prop} (hh : A.handled = none)
    (he : IsEnum s.heap e it i old) (hit : s.heap.IsTupleIter it l i) (hl : s.heap.IsTuple l items) (hx : items[i]? = none)
    (hQ : ∀ h', Heap.ExtBut it s.heap h' → Q none { s with heap := h' }) : wpAny (model prog w) A (pyNext (.ref e)) Q E s := by
  have hT : s.TypeIs (.ref e) "enumerate" := ⟨_, he, rfl⟩
  unfold pyNext
  refine wpAny_bind (wpAny_attempt (wpAny_callSpecial?_slot (name := Str.ofString "__next__") hT F.slot_enumerate_next
    (wpAny_call_entry F.slot_enumerate_next hT F.entry_enumerate_next ?_ (F.args_enumerate_next_1 _))))
  show wpAny _ _ (field (.ref e) 2 >>= _) _ _ _
  refine wpAny_bind (wpAny_field he rfl (x := .ref it) rfl ?_)
  refine wpAny_bind (wpAny_nextOf_tuple_end (show A.in1.handled = none from hh) hit hl hx fun h' x he' hx' => ?_)
  obtain ⟨o, ho, hc⟩ := hx'
  refine wpAny_bind (wpAny_isInstance (T := "StopIteration") (b := true) ⟨o, ho, hc⟩ isSubtype_stop ?_)
  exact wpAny_pure (hQ _ he')
def IteT (K : PySem.W.Frag) (a : Addr) : It :=
  ⟨fun i H => ∃ (xs : List V) (x : V), SqT K H a xs ∧ xs[i]? = some x, fun i H v H' => ∃ T x, v = .ref T ∧ H T = none ∧ H' = upd H T (.tup [.int (i : Nat), x]) ∧ ∀ xs, SqT K H a xs → xs[i]? = some x, fun i H => ∃ xs : List V, SqT K H a xs ∧ xs.length ≤ i⟩
theorem turn_enumT {P : Program} {w : World} {K : PySem.W.Frag} {elts : List Expr} {kk : Nat} {tpos : Pos} (a e it : Addr) :
    Turn P w K (.Tuple elts kk tpos) (IteT K a) [e, it] e (fun i h => (∃ old, IsEnum h e it ((i : Nat) : Int) old) ∧ h.IsTupleIter it a i ∧ e ≠ it) where
  mem := by simp
  obj := fun i h st b hb => by
    obtain ⟨⟨old, he⟩, ⟨o, ho, hc, hd⟩, _⟩ := st
    have e' : b = e ∨ b = it := by simpa using hb
    rcases e' with z | z
    · rw [z]; exact ⟨_, he, fun v q => nomatch q⟩
    · rw [z]; exact ⟨o, ho, fun v q => by rw [hd] at q; cases q⟩
  keep := fun i h h' st k => let ⟨⟨old, he⟩, hi, hne⟩ := st; ⟨⟨old, k e (by simp) _ he⟩, hi.at fun o q => k it (by simp) o q, hne⟩
  item := by
    intro X hP hw hK hc i pins s σ H E I hf st hg
    subst hP hw hK
    obtain ⟨⟨old, he⟩, hit, hne⟩ := st
    obtain ⟨xs, x, hq, hx⟩ := hg
    obtain ⟨its, rv, p, hz⟩ := I.tuple hq
    obtain ⟨u, hu, ru⟩ := rv.get hx
    have hel : e < s.heap.objs.size := Heap.lt_size he
    have hil : it < s.heap.objs.size := by obtain ⟨_, q, _⟩ := hit; exact Heap.lt_size q
    have pt : s.heap.IsTuple a its.toArray := p
    have hai : a ≠ it := by
      rintro rfl
      obtain ⟨o1, q1, c1, _⟩ := pt
      obtain ⟨o2, q2, c2, _⟩ := hit
      rw [q1] at q2; cases q2
      rw [c1] at c2
      exact absurd c2 (by decide +kernel)
    have hae : a ≠ e := by
      rintro rfl
      obtain ⟨o1, q1, c1, _⟩ := pt
      rw [he] at q1; cases q1
      exact absurd c1 (by show ¬ (Value.type "enumerate" = Value.type "tuple"); decide +kernel)
    have hlt : i < its.toArray.size := by
      have := (List.getElem?_eq_some_iff.mp hu).1
      simpa using this
    have D := Draws.tuple (prog := X.prog) (w := X.w) (A := X.A.in1) (show X.A.in1.handled = none from I.ok.hd hc) it a hai its.toArray
    refine wpAny_pyNext_enum_itemD D he ⟨hit, pt⟩ hlt hne (by simp [hne, Ne.symm hae]) fun y h' tk hy ho hit' hT hsz hk => ?_
    have ey : y = u := by
      have hy : its.toArray[i]? = some y := hy
      have : its[i]? = some y := by simpa using hy
      rw [hu] at this; cases this; rfl
    subst ey
    refine ⟨_, rfl, wpAny_letOwnedTupleGo_enum (s := { s with heap := h', toks := tk + 1 }) ho fun h'' he' sb => ?_⟩
    have hT2 : h''.get? s.heap.objs.size = some { cls := .type "tuple", data := .seq #[.int i tk, y] } := (sb.2 _ (Nat.ne_of_gt hel)).trans hT
    have new : ObjOk X.prog X.w (upd H s.heap.objs.size (.tup [.int (i : Nat), x])) h'' s.heap.objs.size (.tup [.int (i : Nat), x]) :=
      ⟨by show 2 ≤ sizeLine; decide, [.int i tk, y], .cons ⟨_, rfl⟩ (.cons ru .nil), ⟨_, hT2, rfl, _, rfl⟩⟩
    have I1 : Inv X pins σ (upd H s.heap.objs.size (.tup [.int (i : Nat), x])) { s with heap := h'', toks := tk + 1 } :=
      I.turnedNew (ch := [e, it]) (fun b ob hb q => (sb.2 b (fun z => hb (by simp [z]))).trans (hk b ob (fun z => hb (by simp [z])) (fun z => hb (by simp [z])) q)) hf (Nat.le_refl _) new
    refine ⟨.ref s.heap.objs.size, _, I1, rfl, ⟨_, x, rfl, I.hok.fresh (Nat.le_refl _), rfl, fun ys hy => by rw [I.tuple_inj hy hq]; exact hx⟩, ⟨⟨y, ?_⟩, hit'.1.at fun o q => (sb.2 it (Ne.symm hne)).trans q, hne⟩, fun b hb => ?_⟩
    · have e1 : ((i + 1 : Nat) : Int) = (i : Int) + 1 := by omega
      rw [e1]; exact he'
    · have hb' : b < s.heap.objs.size := by
        have e' : b = e ∨ b = it := by simpa using hb
        rcases e' with z | z
        · rw [z]; exact hel
        · rw [z]; exact hil
      rw [upd_ne (Nat.ne_of_lt hb')]
      exact (hf b hb).1
  done := by
    intro X hP hw hK hc i pins s σ H E I hf st hg
    subst hP hw hK
    obtain ⟨⟨old, he⟩, hit, hne⟩ := st
    obtain ⟨xs, hq, hx⟩ := hg
    obtain ⟨its, rv, p, hz⟩ := I.tuple hq
    obtain ⟨f0, f1, f2, f3, f4, f5⟩ := hf it (by simp)
    have hl := rv.length
    have pt : s.heap.IsTuple a its.toArray := p
    refine wpAny_pyNext_enum_endT (I.ok.hd hc) he hit pt (by simp; omega) fun h' eb => ⟨rfl, I.turned (t' := s.toks) (fun b o hb q => eb b o hb q) f0 f1 f3 f4 f5⟩
  self := fun A i s Q E st h => let ⟨⟨_, he⟩, _⟩ := st; wpAny_pyIter_enum he h
def iEnumB (K : PySem.W.Frag) (ta : TA) : TI := fun σ H R => ta σ H fun vs H1 => ∃ a xs, vs = [.ref a] ∧ ((SqL K H1 a xs ∧ R (Ite K a) H1) ∨ (SqT K H1 a xs ∧ R (IteT K a) H1))
theorem pi_enumB {X : Cx} {e : Expr} {ta : TA} {p pos tpos : Pos} {elts : List Expr} {kk : Nat} (hg : Gl X "enumerate") (hm : X.mg "enumerate" = none) (ha : PA X [e] ta) (hs : starEach [e] X.env = [(false, eval e X.env)]) :
    PI X (.Tuple elts kk tpos) (.Call (.Name "enumerate" p) [e] [] pos) (iEnumB X.K ta) := by
  refine ⟨fun pins s σ H R I h => ?_⟩
  refine Call_ (ld_blt I hg hm boot_enumerate (PyProof.Rows.callWith_type1 (thn (ha.run pos pins s σ H _ I h) fun us s1 ⟨vs, H1, I1, r1, q1⟩ => ?_) hs rfl))
  obtain ⟨a, xs, ex, hq⟩ := q1
  subst ex
  cases r1 with
  | cons r rr =>
    cases rr
    cases r
    have fp : ∀ b ∈ [s1.heap.objs.size + 1, s1.heap.objs.size], FpOk X pins H1 b := fun b hb => by
      have e' : b = s1.heap.objs.size + 1 ∨ b = s1.heap.objs.size := by simpa using hb
      have hle : s1.heap.objs.size ≤ b := by
        rcases e' with z | z
        · rw [z]; exact Nat.le_add_right _ _
        · rw [z]; exact Nat.le_refl _
      exact I1.fpOk hle (I1.hok.fresh hle)
    rcases hq with ⟨hq, q⟩ | ⟨hq, q⟩
    · obtain ⟨its, rv, p', hz⟩ := I1.list hq
      refine call_enumerate_list p'.isList fun h' he hit hsz hk => wpAny_pyIter_enum he ?_
      have I2 : Inv X pins σ H1 { s1 with heap := h' } := I1.kept (t' := s1.toks) hk
      exact ⟨s1.heap.objs.size + 1, [s1.heap.objs.size + 1, s1.heap.objs.size], _, _, H1, rfl, I2, turn_enum a (s1.heap.objs.size + 1) s1.heap.objs.size, ⟨⟨.none, he⟩, hit, Nat.succ_ne_self _⟩, fp, q⟩
    · obtain ⟨its, rv, p', hz⟩ := I1.tuple hq
      refine call_enumerate_tuple (show s1.heap.IsTuple a its.toArray from p') fun h' he hit hsz hk => wpAny_pyIter_enum he ?_
      have I2 : Inv X pins σ H1 { s1 with heap := h' } := I1.kept (t' := s1.toks) hk
      exact ⟨s1.heap.objs.size + 1, [s1.heap.objs.size + 1, s1.heap.objs.size], _, _, H1, rfl, I2, turn_enumT a (s1.heap.objs.size + 1) s1.heap.objs.size, ⟨⟨.none, he⟩, hit, Nat.succ_ne_self _⟩, fp, q⟩
def iSeq (K : PySem.W.Frag) (tl : TE) : TI := fun σ H R => tl σ H fun x H1 => ∃ a xs, x = .ref a ∧ ((SqL K H1 a xs ∧ R (Itl K a) H1) ∨ (SqT K H1 a xs ∧ R (Itt K a) H1))
theorem pi_seq {X : Cx} {tg l : Expr} {tl : TE} (hl : PE X l tl) : PI X tg l (iSeq X.K tl) := by
  refine ⟨fun pins s σ H R I h => ?_⟩
  refine thn (hl.run pins s σ H _ I h) fun v s1 ⟨x, H1, I1, r1, q1⟩ => ?_
  obtain ⟨a, xs, e, hq⟩ := q1
  subst e
  cases r1
  have fp : ∀ b ∈ [s1.heap.objs.size], FpOk X pins H1 b := fun b hb => by
    have e : b = s1.heap.objs.size := by simpa using hb
    subst e
    exact I1.fpOk (Nat.le_refl _) (I1.hok.fresh (Nat.le_refl _))
  rcases hq with ⟨hq, q⟩ | ⟨hq, q⟩
  · obtain ⟨its, rv, p, hz⟩ := I1.list hq
    refine wpAny_pyIter_list p.isList ?_
    exact ⟨s1.heap.objs.size, [s1.heap.objs.size], _, _, H1, rfl, I1.kept (t' := s1.toks) fun b o e => Heap.get?_push_of_some _ e, turn_list a _, ⟨_, Heap.get?_push_size _ rfl, rfl, rfl⟩, fp, q⟩
  · obtain ⟨its, rv, p, hz⟩ := I1.tuple hq
    refine wpAny_pyIter_tuple (show s1.heap.IsTuple a its.toArray from p) ?_
    exact ⟨s1.heap.objs.size, [s1.heap.objs.size], _, _, H1, rfl, I1.kept (t' := s1.toks) fun b o e => Heap.get?_push_of_some _ e, turn_tuple a _, ⟨_, Heap.get?_push_size _ rfl, rfl, rfl⟩, fp, q⟩
theorem walk_enumT {K : PySem.W.Frag} {a : Addr} {xs : List V} : Walk (IteT K a) xs.length (fun H => SqT K H a xs) (YPair (fun i => some (.int (i : Nat))) (fun i => xs[i]?)) := by
  refine ⟨fun i _ hi q => ⟨xs, xs[i], q, by simp [hi]⟩, fun _ q => ⟨xs, q, Nat.le_refl _⟩, fun i H v H' _ q y => ?_⟩
  obtain ⟨T, x, h1, h2, h3, h4⟩ := y
  exact ⟨T, .int (i : Nat), x, h1, h2, h3, rfl, h4 xs q⟩
end Mi

namespace Mi
open PySem PySem.Spec PyProof.Rows L2

/-! ### {elt for target in iter}, elt an int -/
section
variable {X : Cx}
/-- one more int in the set at D -/
theorem put_int {pins : List (Addr × Obj)} {σ : L2.St} {H : Hp} {s : Shared} {E : Value → Shared → Prop} {D : Addr} {S : Int → Bool} {n : Nat} {k : Int} {u : Value} {Q : Value → Shared → Prop} (I : Inv X pins σ H s) (hD : H D = some (SetO X.w D S n))
    (room : n + 1 < scanBound) (r : RelV (.int k) u) (h : ∀ s', Inv X pins σ (upd H D (SetO X.w D (fun j => S j || decide (j = k)) (if S k = true then n else n + 1))) s' → Q .none s') :
    wpAny (model X.prog X.w) X.A (call (.builtin "set.add") [.ref D, u]) Q E s := by
  obtain ⟨tk, rfl⟩ := r
  refine setR_add (setO_get I hD) room fun g same now => h _ ?_
  refine I.write (e := D) (t' := s.toks + 1) (by rw [hD]; exact True.intro) (Or.inl rfl) (fun b u hb hu => (same.2 b hb).trans hu) ?_ (setO_new now)
  have ⟨o, _, _, _, ho, _⟩ := now
  exact ⟨o, ho⟩
def tSi (w : World) (wi : TI) (g : TG) (tt : TT) (te : TE) (own : List Nat) : TE := fun σ H Q => wi σ H fun J H1 => ∀ D, H1 D = none → ∃ W : Nat → Nat → Hp → Prop, (∃ m, W 0 m (upd H1 D (SetO w D (fun _ => false) 0))) ∧ ∀ i m H, W i m H →
  (J.stop i H ∧ Q (.ref D) H) ∨ (J.go i H ∧ ∃ Nx : Hp → Prop, (∀ H', Nx H' → ∃ m', m' < m ∧ W (i + 1) m' H') ∧ ∀ x H', J.yld i H x H' → g x (wipe σ own) H' fun σ2 H2 => wipe σ2 own = wipe σ own ∧ tt σ2 H2 fun b H3 =>
    if b = true then te σ2 H3 fun y H4 => ∃ (k : Int) (S : Int → Bool) (n : Nat), y = .int k ∧ H4 D = some (SetO w D S n) ∧ n + 1 < scanBound ∧ Nx (upd H4 D (SetO w D (fun j => S j || decide (j = k)) (if S k = true then n else n + 1))) else Nx H3)
theorem pe_si {elt tg iter : Expr} {ifs : List Expr} {scope : Scope} {own : List (Str × Nat)} {pos : Pos} {wi : TI} {g : TG} {tt : TT} {te : TE} (calm : X.calm = true) (nd : X.N.Nodup) (src : PI X tg iter wi) (blk : BlkOk X.N X.env.scope scope own)
    (pg : ∀ (s : Shared) (H : Hp) (C : Addr) (cl : List (Str × Addr)) (fp : List Addr), PG (X.blk s H scope (compEnvC scope cl C X.env) fp) tg g)
    (pt : ∀ (s : Shared) (H : Hp) (C : Addr) (cl : List (Str × Addr)) (fp : List Addr), PTs (X.blk s H scope (compEnvC scope cl C X.env) fp) ifs tt)
    (pe : ∀ (s : Shared) (H : Hp) (C : Addr) (cl : List (Str × Addr)) (fp : List Addr), PE (X.blk s H scope (compEnvC scope cl C X.env) fp) elt te)
    (fold : ∀ x, foldedSetIterable iter X.env x = pure x) : PE X (.SetComp elt [⟨tg, iter, ifs, 0⟩] scope pos) (tSi X.w wi g tt te (own.map (·.2))) := by
  constructor
  intro pins s σ H Q I h
  rw [PpSet.eval_SetComp]
  have caught : ∀ y ∈ scope.names, y.2 = .free → ∃ c, X.env.cells.lookup y.1 = some c := by
    intro y hy e
    exact I.ok.has _ (blk.free y hy e)
  refine wpAny_comprehension_free (use := none) rfl fold (closure_ok caught) blk.kind (fun y hy e => (blk.uniq y hy).trans (by rw [e])) ?_
  refine thn (src.run pins s σ H _ I h) fun xv s1 hx => thn hx fun itv s2 got => ?_
  obtain ⟨it, fp, tn, J, Hi, rfl, Ii, T, sti, fpi, q⟩ := got
  refine PpSet.newSet_ok (newEnv_comp ?_)
  -- D: the new set
  obtain ⟨D, eD⟩ : ∃ D, s2.heap.objs.size = D := ⟨_, rfl⟩
  rw [eD]
  obtain ⟨W, ⟨m0, w0⟩, turn⟩ := q D (Ii.hok.fresh (Nat.le_of_eq eD))
  obtain ⟨s3, es3⟩ : ∃ s3 : Shared, s3 = { s2 with heap := s2.heap.push { cls := .type "set", dict := none, data := .set #[] 0 (.fresh 0 0 (!X.w.params.followText "set-order")) } } := ⟨_, rfl⟩
  rw [← es3]
  obtain ⟨H3, eH3⟩ : ∃ H3, H3 = upd Hi D (SetO X.w D (fun _ => false) 0) := ⟨_, rfl⟩
  rw [← eH3] at w0
  have up : ∀ b o, s2.heap.get? b = some o → s3.heap.get? b = some o := fun b o e => by rw [es3]; exact Heap.get?_push_of_some _ e
  have I3 : Inv X pins σ H3 s3 := by
    rw [es3, eH3]
    refine Ii.laid (t' := s2.toks) (fun b o e => Heap.get?_push_of_some _ e) (Nat.le_of_eq eD) (setO_new ?_)
    rw [← eD]
    exact setR_fresh X.w
  have small : ∀ b ∈ fp, b < s2.heap.objs.size := fun b hb => let ⟨o, e, _⟩ := T.obj _ _ sti b hb; Heap.lt_size e
  have fp3 : ∀ b ∈ fp, FpOk X pins H3 b ∧ b < s3.heap.objs.size := fun b hb => by
    have lt := small b hb
    refine ⟨⟨?_, (fpi b hb).2⟩, ?_⟩
    · rw [eH3, upd_ne (show b ≠ D by rw [← eD]; exact Nat.ne_of_lt lt)]
      exact (fpi b hb).1
    · rw [es3]
      dsimp only
      rw [Heap.size_push]
      exact Nat.lt_succ_of_lt lt
  have st3 : tn 0 s3.heap := T.keep _ _ _ sti fun b _ o e => up b o e
  have I4 := block_start I3 blk nd fp3
  have clr : ∀ b ∈ fp, H3 b = none := fun b hb => (fp3 b hb).1.1
  obtain ⟨ce, ece⟩ : ∃ ce, ce = compEnvC scope (cellsFrom (s3.heap.objs.size + 1) scope.names (cloFrom X.env.cells scope.names [])) s3.heap.objs.size X.env := ⟨_, rfl⟩
  have pg' := pg s3 H3 s3.heap.objs.size (cellsFrom (s3.heap.objs.size + 1) scope.names (cloFrom X.env.cells scope.names [])) fp
  have pt' := pt s3 H3 s3.heap.objs.size (cellsFrom (s3.heap.objs.size + 1) scope.names (cloFrom X.env.cells scope.names [])) fp
  have pe' := pe s3 H3 s3.heap.objs.size (cellsFrom (s3.heap.objs.size + 1) scope.names (cloFrom X.env.cells scope.names [])) fp
  rw [← ece] at I4 pg' pt' pe'
  have cL : ce.locals = s3.heap.objs.size := by rw [ece]; rfl
  obtain ⟨s4, es4⟩ : ∃ s4 : Shared, s4 = { s3 with heap := pushCells (s3.heap.push { cls := .type "dict", data := .dict #[] }) scope.names } := ⟨_, rfl⟩
  rw [← es4] at I4
  have st4 : tn 0 s4.heap := T.keep _ _ _ st3 fun b _ o e => by rw [es4]; exact pushCells_keeps _ _ _ _ (Heap.get?_push_of_some _ e)
  let B : Cx := X.blk s3 H3 scope ce fp
  have fpB : ∀ {σ' : L2.St} {H' : Hp} {s' : Shared}, Inv B [] σ' H' s' → (∀ b ∈ fp, H' b = none) → ∀ b ∈ fp, FpOk B [] H' b := fun I' hn b hb =>
    ⟨hn b hb, (I'.ok.exf b hb).1, I'.ok.exfs b hb, Or.inl hb, (I'.ok.exf b hb).2, fun p hp => by cases hp⟩
  have goal : codeAny (model X.prog X.w) X.A (.compLoop (.SetComp elt [⟨tg, iter, ifs, 0⟩] scope pos) 0 (.ref it) (.ref D) ce) (compPost (model X.prog X.w) X.A X.xe none (EP X pins σ Q) (.ref D) s3.heap.objs.size) s4 := by
    let Lp : Nat → Shared → Prop := fun n s' => ∃ i H', Inv B [] (wipe σ (own.map (·.2))) H' s' ∧ tn i s'.heap ∧ (∀ b ∈ fp, H' b = none) ∧ W i n H'
    refine PpSet.compLoopS_any Lp ?_ m0 ⟨0, H3, I4, st4, clr, w0⟩
    rintro n s5 ⟨i, H5, I5, st5, n5, w5⟩
    rcases turn i n H5 w5 with ⟨stop, last⟩ | ⟨go, Nx, down, step⟩
    · refine thnF (T.done B rfl rfl rfl calm i [] s5 _ H5 (fun _ _ => False) I5 (fpB I5 n5) st5 stop) fun r s6 ⟨er, I6⟩ => ?_
      subst er
      have I7 : Inv X pins σ H5 s6 := I3.call' (ch := fp) I6.os I6.base I6.hok I6.bare fun b hb => let z := (fp3 b hb).1; ⟨z.2.2.2.1, z.2.1, z.2.2.2.2.1, z.2.2.2.2.2⟩
      have away : H5 s3.heap.objs.size = none := by rw [← cL]; exact I6.free
      obtain ⟨m, hn, _⟩ := I6.loc
      have hn' : s6.heap.Ns s3.heap.objs.size m := by rw [← cL]; exact hn
      obtain ⟨f0, f1, f2, f3, f4, f5⟩ := I3.fpOk (Nat.le_refl _) away
      exact ⟨m, hn', fun h'' sb => ⟨.ref D, H5, I7.turned (t' := s6.toks) (fun b o hb e => (sb.2 b hb).trans e) f0 f1 f3 f4 f5, rfl, last⟩⟩
    · refine thnF (T.item B rfl rfl rfl calm i [] s5 _ H5 (fun _ _ => False) I5 (fpB I5 n5) st5 go) fun r s6 ⟨u, er, h6⟩ => ?_
      subst er
      refine thnF h6 fun _ s7 ⟨x, H7, I7, r7, y7, st7, n7⟩ => ?_
      refine thnF (pg'.run _ s7 _ H7 x u _ (I7.pinned (fpB I7 n7) (T.obj _ _ st7)) r7 (step x H7 y7)) fun _ s8 ⟨σ8, H8, I8, ew, q8⟩ => ?_
      refine thnF (pt'.run _ s8 σ8 H8 _ I8 q8) fun b s9 ⟨H9, I9, q9⟩ => ?_
      have again : ∀ {s' : Shared} {H' : Hp}, Inv B ([] ++ pinsAt fp s7.heap) σ8 H' s' → Nx H' → ∃ m, m < n ∧ Lp m s' := fun {s' H'} I' nx => by
        obtain ⟨m', hm, w'⟩ := down H' nx
        have stay : ∀ b ∈ fp, ∀ o, s7.heap.get? b = some o → s'.heap.get? b = some o ∧ H' b = none := fun b hb o e =>
          have z := I'.pin (b, o) (List.mem_append_right _ (List.mem_append_right _ (mem_pinsAt hb e)))
          ⟨z.1, z.2.1⟩
        have len : (wipe σ (own.map (·.2))).length = σ8.length := by rw [← ew, wipe_length]
        refine ⟨m', hm, i + 1, H', (I'.unpinned (pins := [])).weak len (fun j v e => (wipe_some (by rw [ew]; exact e)).1), T.keep _ _ _ st7 fun b hb o e => (stay b hb o e).1, fun b hb => ?_, w'⟩
        obtain ⟨o, e, _⟩ := T.obj _ _ st7 b hb
        exact (stay b hb o e).2
      cases b with
      | false =>
        rw [if_neg Bool.false_ne_true] at q9 ⊢
        exact again I9 q9
      | true =>
        rw [if_pos rfl] at q9 ⊢
        refine thnF (pe'.run _ s9 σ8 H9 _ I9 q9) fun z s10 ⟨yv, H10, I10, r10, k, S0, n0, ey, hD10, room, nx⟩ => ?_
        subst ey
        exact put_int (X := B) I10 hD10 room r10 fun s11 I11 => again I11 nx
  have fin := PpSet.codeAny_compStart_set goal (T.self X.A 0 _ _ _ st4 goal)
  rw [ece, es4] at fin
  exact fin
end
end Mi

namespace Mi
open PySem PySem.Spec L2

/-! ### the text of a def against its core -/
structure SX where
  N : List Str
  sc : Scope
  fb : Str → Bool
  gx : Bool := false
def SX.vis (x : SX) (n : Str) : Bool := match x.sc.names.lookup n with
  | some .local => true
  | some .cell => true
  | some .free => true
  | _ => false
def SX.loc (x : SX) (n : Str) : Bool := match x.sc.names.lookup n with
  | some .local => true
  | some .cell => x.fb n
  | _ => false
def SX.gl (x : SX) (n : Str) : Bool := decide (x.sc.names.lookup n = some .globalImplicit)
def plainN (n : Str) : Bool := !(n == ("__debug__" : Str)) && !(n == ("__classdict__" : Str))
def SX.in_ (x : SX) (s : Scope) : SX := ⟨x.N, relS s x.sc, fun n => s.names.lookup n == some .cell, x.gx⟩
/-- within a generator expression -/
def SX.gen (x : SX) (s : Scope) : SX := ⟨x.N, s, fun _ => false, false⟩
/-- a generator expression's scope -/
def genC (N : List Str) (sc scope : Scope) (own : List (Str × Nat)) : Bool :=
  blkC N sc scope own && decide (scope.isCoroutine = false) && (scope.names.all fun y => decide (y.2 ≠ .cell)) && decide (scope.names.lookup (".0" : Str) = some NameKind.local)
def notLst : Expr → Bool
  | .List .. => false
  | _ => true
def ownP (N : List Str) (own : List Nat) : List (Str × Nat) := own.map fun i => (N.getD i default, i)
def Me.name : Me → String
  | .append => "append"
  | .pop => "pop"
  | .extend => "extend"
  | .insert => "insert"
  | .remove => "remove"
def noCall : Expr → Bool
  | .Call .. => false
  | _ => true
/-- the keywords' names as they stand in the call -/
def ksOf (d : Fn) (n : Nat) (qs : List Nat) : List String := (List.range qs.length).map fun q => d.ps.getD (n + (qs.findIdx (· == q))) ""
def chkTy (x : SX) : List String → List Expr → Bool
  | [], [] => true
  | s :: ss, .Name n _ :: es => decide (n = Str.ofString s) && x.gl n && decide (s ∈ clNames) && chkTy x ss es
  | _, _ => false
def chkNm (x : SX) (i : Nat) (e : Expr) : Bool := match e with
  | .Name n _ => decide (x.N[i]? = some n) && x.loc n
  | _ => false
def chkNms (x : SX) : List Nat → List Expr → Bool
  | [], [] => true
  | i :: l, e :: es => chkNm x i e && chkNms x l es
  | _, _ => false
def chkTg (x : SX) (tg : Tg) (e : Expr) : Bool := match tg, e with
  | .nm i, e => chkNm x i e
  | .tu l, .Tuple es _ _ => chkNms x l es
  | _, _ => false
def Tg.slots : Tg → List Nat
  | .nm i => [i]
  | .tu l => l
/-- a display's keys: texts -/
def chkKs : List String → List (Option Expr) → Bool
  | [], [] => true
  | k :: ks, some (.Constant (.str t) _ _) :: l => decide (Str.ofString k = t) && chkKs ks l
  | _, _ => false
section
variable (Φ : Tx)
mutual
def chkC : C → SX → Expr → Bool
  | .var i, x, e => match e with
    | .Name n _ => decide (x.N[i]? = some n) && x.vis n && plainN n
    | _ => false
  | .con k, x, e => match k, e with
    | .non, .Constant .none _ _ => true
    | .bl b, .Constant (.bool c) _ _ => b == c
    | .int i, .Constant (.int j) _ _ => i == j
    | .str s, .Constant (.str t) _ _ => decide (Str.ofString s = t)
    | _, _ => false
  | .tup es, x, e => match e with
    | .Tuple l _ _ => chkCs es x l
    | _ => false
  | .lst _ es, x, e => match e with
    | .List l _ => chkCs es x l
    | _ => false
  | .bin _ o a b, x, e => match e with
    | .BinOp l op r _ => decide (o.op = op) && chkC a x l && chkC b x r
    | _ => false
  | .neg a, x, e => match e with
    | .UnaryOp .USub l _ => chkC a x l
    | _ => false
  | .cmp o a b, x, e => match e with
    | .Compare l [op] [r] _ => decide (o.op = op) && chkC a x l && chkC b x r
    | _ => false
  | .chain o o' a b c, x, e => match e with
    | .Compare l [op, op'] [m, r] _ => decide (o.op = op) && decide (o'.op = op') && chkC a x l && chkC b x m && chkC c x r
    | _ => false
  | .and a b, x, e => match e with
    | .BoolOp .And (l :: r :: t) p => chkC a x l && chkC b x (.BoolOp .And (r :: t) p)
    | _ => false
  | .or a b, x, e => match e with
    | .BoolOp .Or (l :: r :: t) p => chkC a x l && chkC b x (.BoolOp .Or (r :: t) p)
    | _ => false
  | .one a, x, e => match e with
    | .BoolOp _ [l] _ => chkC a x l
    | _ => false
  | .not a, x, e => match e with
    | .UnaryOp .Not l _ => chkC a x l
    | _ => false
  | .ife t a b, x, e => match e with
    | .IfExp c l r _ => chkT t x c && chkC a x l && chkC b x r
    | _ => false
  | .ix a i, x, e => match e with
    | .Subscript l r _ => chkC a x l && chkC i x r
    | _ => false
  | .sl _ a lo hi, x, e => match e with
    | .Subscript l (.Slice lo' hi' none _) _ => chkC a x l && chkO lo x lo' && chkO hi x hi'
    | _ => false
  | .rev _ a, x, e => match e with
    | .Subscript l (.Slice none none (some (.UnaryOp .USub (.Constant (.int 1) _ _) _)) _) _ => chkC a x l
    | _ => false
  | .call _ f es, x, e => match e with
    | .Call (.Name n _) l [] _ => decide (n = Str.ofString f) && x.gl n && plainN n && (Φ f).isSome && chkCs es x l
    | _ => false
  | .callk _ f es qs kes, x, e => match e with
    | .Call (.Name n _) l (kw :: kws) _ => decide (n = Str.ofString f) && x.gl n && plainN n && chkCs es x l && chkK kes x (kw :: kws) && (match Φ f with
      | some d => decide ((es.len, qs) ∈ d.kw) && decide ((kw :: kws).map (·.arg) = (ksOf d es.len qs).map fun s => some (Str.ofString s))
      | none => false)
    | _ => false
  | .bi b es, x, e => match e with
    | .Call (.Name n _) (l :: r) [] _ => decide (n = Str.ofString b.name) && x.gl n && chkCs es x (l :: r)
    | _ => false
  | .lrange _ es, x, e => match e with
    | .Call (.Name n _) [.Call (.Name m _) (l :: r) [] _] [] _ => decide (n = Str.ofString "list") && x.gl n && decide (m = Str.ofString "range") && x.gl m && chkCs es x (l :: r)
    | _ => false
  | .trange es, x, e => match e with
    | .Call (.Name n _) [.Call (.Name m _) (l :: r) [] _] [] _ => decide (n = Str.ofString "tuple") && x.gl n && decide (m = Str.ofString "range") && x.gl m && chkCs es x (l :: r)
    | _ => false
  | .isi a ts, x, e => match e with
    | .Call (.Name n _) [l, c] [] _ => decide (n = Str.ofString "isinstance") && x.gl n && chkC a x l && (match c with
      | .Tuple cs _ _ => decide (cs.length ≤ 20) && chkTy x ts cs
      | c => chkTy x ts [c])
    | _ => false
  | .meth m o es, x, e => match e with
    | .Call (.Attribute l n ap) r [] cp => decide (n = Str.ofString m.name) && noCall l && (ap.endLine == cp.line) && decide (r.length ≤ 8) && chkC o x l && chkCs es x r
    | _ => false
  | .lc _ tg it ifs el own, x, e => match e with
    | .ListComp v [⟨t, i, ts, 0⟩] sc _ => blkC x.N x.sc sc (ownP x.N own) && (tg.slots.all fun j => decide (j ∈ own)) && chkTg (x.in_ sc) tg t && chkI it x t i && chkF ifs (x.in_ sc) ts && chkC el (x.in_ sc) v
    | _ => false
  | .cst s i, x, e => match e with
    | .Name n _ => decide (n = Str.ofString s) && x.gl n && plainN n && decide (Φ.cs s = some (.int i))
    | _ => false
  | .cstS s t, x, e => match e with
    | .Name n _ => decide (n = Str.ofString s) && x.gl n && plainN n && decide (Φ.cs s = some (.str t))
    | _ => false
  | .six a i, x, e => match e with
    | .Subscript l r _ => chkC a x l && chkC i x r
    | _ => false
  | .ssl a lo hi, x, e => match e with
    | .Subscript l (.Slice lo' hi' none _) _ => chkC a x l && chkO lo x lo' && chkO hi x hi'
    | _ => false
  | .sin neg a b, x, e => match e with
    | .Compare l [op] [r] _ => decide (op = if neg = true then CmpOp.NotIn else CmpOp.In) && chkC a x l && chkC b x r
    | _ => false
  | .deq neg a b, x, e => match e with
    | .Compare l [op] [r] _ => decide (op = if neg = true then CmpOp.NotEq else CmpOp.Eq) && chkC a x l && chkC b x r
    | _ => false
  | .join o a, x, e => match e with
    | .Call (.Attribute l n ap) [r] [] cp => decide (n = Str.ofString "join") && noCall l && (ap.endLine == cp.line) && chkC o x l && chkC a x r
    | _ => false
  | .split _ o a, x, e => match e with
    | .Call (.Attribute l n ap) [r] [] cp => decide (n = Str.ofString "split") && noCall l && (ap.endLine == cp.line) && chkC o x l && chkC a x r
    | _ => false
  | .chain3 o o' o'' a b c d, x, e => match e with
    | .Compare l [op, op', op''] [m, r, q] _ => decide (o.op = op) && decide (o'.op = op') && decide (o''.op = op'') && chkC a x l && chkC b x m && chkC c x r && chkC d x q
    | _ => false
  | .ssc _ tg it ifs el own, x, e => match e with
    | .Call (.Name n _) [.SetComp v [⟨t, i, ts, 0⟩] sc _] [] _ => decide (n = Str.ofString "sorted") && x.gl n && blkC x.N x.sc sc (ownP x.N own) && (tg.slots.all fun j => decide (j ∈ own)) && chkTg (x.in_ sc) tg t && chkI it x t i && chkF ifs (x.in_ sc) ts && chkC el (x.in_ sc) v
    | _ => false
  | .anyg neg tg it ifs el own, x, e => match e with
    | .Call (.Name n _) [.GeneratorExp v [⟨t, i, ts, 0⟩] sc _] [] _ => decide (n = Str.ofString (if neg = true then "all" else "any")) && x.gl n && x.gx && genC x.N x.sc sc (ownP x.N own) && (tg.slots.all fun j => decide (j ∈ own)) && notLst i && chkTg (x.gen sc) tg t && chkI it x t i && chkF ifs (x.gen sc) ts && chkC el (x.gen sc) v
    | _ => false
  | .lc2 _ tg it tg2 it2 ifs el own own2, x, e => match e with
    | .ListComp v [⟨t, i, [], 0⟩, ⟨t2, i2, ts, 0⟩] sc _ => blkC x.N x.sc sc (ownP x.N own) && (tg.slots.all fun j => decide (j ∈ own)) && (tg2.slots.all fun j => decide (j ∈ own2)) && (own2.all fun j => decide (j ∈ own)) && chkTg (x.in_ sc) tg t && chkI it x t i && chkTg (x.in_ sc) tg2 t2 && chkI it2 (x.in_ sc) t2 i2 && chkF ifs (x.in_ sc) ts && chkC el (x.in_ sc) v
    | _ => false
  | .dct ks es, x, e => match e with
    | .Dict kl l _ => decide (kl.length ≤ 15) && decide (ks.length = es.len) && chkKs ks kl && chkCs es x l
    | _ => false
termination_by structural c => c
def chkT : T → SX → Expr → Bool
  | .v c, x, e => match e with
    | .UnaryOp .Not _ _ => false
    | .BoolOp .. => false
    | .IfExp .. => false
    | e => chkC c x e
  | .and a b, x, e => match e with
    | .BoolOp .And (l :: r :: t) p => chkT a x l && chkT b x (.BoolOp .And (r :: t) p)
    | _ => false
  | .or a b, x, e => match e with
    | .BoolOp .Or (l :: r :: t) p => chkT a x l && chkT b x (.BoolOp .Or (r :: t) p)
    | _ => false
  | .one a, x, e => match e with
    | .BoolOp _ [l] _ => chkT a x l
    | _ => false
  | .not a, x, e => match e with
    | .UnaryOp .Not l _ => chkT a x l
    | _ => false
termination_by structural c => c
def chkCs : Cs → SX → List Expr → Bool
  | .nil, _, l => match l with
    | [] => true
    | _ => false
  | .cons a r, x, l => match l with
    | e :: es => chkC a x e && chkCs r x es
    | _ => false
termination_by structural c => c
def chkK : Cs → SX → List Keyword → Bool
  | .nil, _, l => match l with
    | [] => true
    | _ => false
  | .cons a r, x, l => match l with
    | ⟨some _, e, _⟩ :: es => chkC a x e && chkK r x es
    | _ => false
termination_by structural c => c
def chkO : Co → SX → Option Expr → Bool
  | .no, _, o => match o with
    | none => true
    | _ => false
  | .so a, x, o => match o with
    | some e => chkC a x e
    | _ => false
termination_by structural c => c
def chkF : To → SX → List Expr → Bool
  | .no, _, l => match l with
    | [] => true
    | _ => false
  | .so a, x, l => match l with
    | [e] => chkT a x e
    | _ => false
termination_by structural c => c
def chkI : It' → SX → Expr → Expr → Bool
  | .val a, x, _, e => chkC a x e
  | .sgn a, x, _, e => chkC a x e
  | .range1 a, x, _, e => match e with
    | .Call (.Name n _) [l] [] _ => decide (n = Str.ofString "range") && x.gl n && chkC a x l
    | _ => false
  | .range2 a b, x, _, e => match e with
    | .Call (.Name n _) [l, r] [] _ => decide (n = Str.ofString "range") && x.gl n && chkC a x l && chkC b x r
    | _ => false
  | .enum a, x, t, e => match t, e with
    | .Tuple _ _ _, .Call (.Name n _) [l] [] _ => decide (n = Str.ofString "enumerate") && x.gl n && chkC a x l
    | _, _ => false
termination_by structural c => c
end
end
end Mi

set_option maxHeartbeats 2000000
namespace Mx
open PySem PySem.Spec PyProof.Rows PySem.W PySem.Calls
/-! ### ValueError.__init__ by way of super() -/
abbrev vInit : String := "ValueError.__init__"
abbrev bnd (x : Addr) : Obj := ⟨.type "method-wrapper", none, .fields #[.builtin vInit, .ref x], #[]⟩
theorem ty_vInit : typeOf (.builtin vInit) = pure (.type "wrapper_descriptor") := by
  show builtinType _ = _
  rw [builtinType_eq_fast]
  kernel_rfl
theorem nac_vInit : (kfb_private% "nameAndClass") (Value.builtin vInit) = (pure (("__init__" : Str), Value.type "ValueError") : Sem (Str × Value)) := by
  kernel_rfl
section
variable {M : Model} {prog : Program} {w : World} {A : Around} {E : Value → Shared → Prop} {h : Heap} {g : Array GenState} {d : Drawn} {t : Nat} {os : OsState} {x C D so : Addr}
theorem bind_vInit {P : Fin → Shared → Prop} (is : Looks M h (isInstance (.ref x) (.type "ValueError")) true) (q : P (.done (.ret (.ref h.objs.size))) ⟨h.push (bnd x), g, d, t, os⟩) :
    wpAny M A (Builtin.«wrapper_descriptor.__get__» ⟨[.builtin vInit, .ref x, .ref C], []⟩) P E ⟨h, g, d, t, os⟩ := by
  unfold Builtin.«wrapper_descriptor.__get__»
  refine wpAny_bind (wpAny_of_eq (a := (.builtin vInit, some (.ref x), some (.ref C))) (by first | rfl | kernel_rfl) ?_)
  show wpAny M A ((kfb_private% "checkInstance") (.builtin vInit) (.ref x) >>= fun _ => newFields "method-wrapper" [.builtin vInit, .ref x] >>= fun r => ret r) P E _
  refine wpAny_bind ?_
  show wpAny M A ((kfb_private% "nameAndClass") (.builtin vInit) >>= _) _ E _
  refine wpAny_bind (wpAny_of_eq nac_vInit ?_)
  show wpAny M A (isInstance (.ref x) (.type "ValueError") >>= _) _ E _
  refine wpAny_bind (is.at (KFB.if_not rfl (wpAny_pure ?_)))
  exact wpAny_bind (wpAny_newObj_type (wpAny_pure q))
/-- what the super object and the class are known to be -/
structure SupA (M : Model) (h : Heap) (K : Frag) (so D x C : Addr) (l₀ : List Value) : Prop where
  obj : h.get? so = some (ks_superObj D x C)
  op : Looks M h (opaqueClassAbove (.ref C)) none
  mro : Looks M h (mroOf (.ref C)) l₀
  kin : K.In h
  al : alongIn K "__init__" ((l₀.dropWhile (· != .ref D)).drop 1) = some (some (.builtin vInit))
  ne : x ≠ C
  is : Looks M h (isInstance (.ref x) (.type "ValueError")) true
theorem sup_ga {l₀ : List Value} {K : Frag} {tk : Tok} {Q : Fin → Shared → Prop} (S : SupA (model prog w) h K so D x C l₀) (q : Q (.done (.ret (.ref h.objs.size))) ⟨h.push (bnd x), g, d, t, os⟩) :
    wpAny (model prog w) A (Builtin.«super.__getattribute__» ⟨[.ref so, .str "__init__" tk], []⟩) Q E ⟨h, g, d, t, os⟩ := by
  have hso := S.obj
  have hno := S.op
  have hC := S.mro
  have hf := S.al
  have hin := S.is
  have X := S.kin
  have hlk := ESX.slot_wd.lookup
  have hne : (Value.ref x == Value.ref C) = false := by simp [S.ne]
  have hn : (("__init__" : Str) == ("__class__" : Str)) = false := by decide +kernel
  have hTi : Shared.TypeIs ⟨h, g, d, t, os⟩ (.builtin vInit) "wrapper_descriptor" := ty_vInit
  have hdt : (ks_superObj D x C).data = .fields #[.ref D, .ref x, .ref C] := rfl
  have f0 : (#[.ref D, .ref x, .ref C] : Array Value)[0]? = some (.ref D) := rfl
  have f1 : (#[.ref D, .ref x, .ref C] : Array Value)[1]? = some (.ref x) := rfl
  have f2 : (#[.ref D, .ref x, .ref C] : Array Value)[2]? = some (.ref C) := rfl
  unfold Builtin.«super.__getattribute__»
  repeat (first
    | (with_reducible refine wpAny_field hso hdt f0 ?_) | (with_reducible refine wpAny_field hso hdt f1 ?_) | (with_reducible refine wpAny_field hso hdt f2 ?_)
    | (with_reducible refine ks_wpAny_notOpaque hno ?_)
    | (with_reducible refine Looks.at hC ?_)
    | (refine ks_forIn_along X (fun _ _ => rfl) rfl ?_ hf)
    | (with_reducible refine wpAny_call_entry ESX.slot_wd hTi ESX.entry_wd ?_ (ESX.args_wd _ _ _))
    | (with_reducible refine bind_vInit hin ?_)
    | (with_reducible refine ⟨_, rfl, ?_⟩)
    | (simp only [hn, hne, Bool.or_false, Bool.false_eq_true, if_false])
    | wp_step
    | dsimp only)
  all_goals exact q
theorem sup_method {l₀ : List Value} {K : Frag} {pl : Sem Bool} {Q : Value × List Value → Shared → Prop} (S : SupA (model prog w) h K so D x C l₀) (q : Q (.ref h.objs.size, []) ⟨h.push (bnd x), g, d, t + 1, os⟩) :
    wpAny (model prog w) A (getMethod (.ref so) "__init__" pl) Q E ⟨h, g, d, t, os⟩ := by
  have hlk := F.ks_slot_super_ga.lookup
  have hcan := F.ks_canon_super_ga
  have hT : ∀ t', (⟨h, g, d, t', os⟩ : Shared).TypeIs (.ref so) "super" := fun _ => ⟨_, S.obj, rfl⟩
  unfold getMethod
  refine wpAny_bind (wpAny_specialOf (hT _) hlk ?_)
  show wpAny _ _ (if (Manifest.canonical "super.__getattribute__" != "object.__getattribute__") = true then _ else _) _ _ _
  rw [if_pos hcan]
  unfold getAttr getAttrBy
  refine wpAny_bind (wpAny_bind (wpAny_mkText (wpAny_holding (wpAny_bind (wpAny_typeOf (hT _) (wpAny_bind (wpAny_of_eq hlk ?_)))))))
  show wpAny _ _ (getAttrByItsOwn (.ref so) (.str "__init__" t) (.type "super") (.builtin "super.__getattribute__") true false) _ _ _
  unfold getAttrByItsOwn hookBefore callGetattribute boundAndCalled
  refine wpAny_bind (wpAny_of_eq (show (if onTheHeap (.type "super") then typeLookup (.type "super") "__getattr__" else pure none) = pure none from rfl) ?_)
  refine wpAny_bind (wpAny_attempt (wpAny_holding ?_))
  show wpAny _ _ (bindSpecial (.builtin "super.__getattribute__") (.ref so) >>= _) _ _ _
  refine wpAny_bind (wpAny_of_eq (F.ks_slot_super_ga.bind _) ?_)
  refine wpAny_mono (Q := fun v s' => v = .ref h.objs.size ∧ s' = ⟨h.push (bnd x), g, d, t + 1, os⟩) (E := fun _ _ => False)
    (wpAny_call_entry F.ks_slot_super_ga (hT _) F.ks_entry_super_ga (sup_ga S ⟨_, rfl, rfl, rfl⟩) (F.ks_gaArgs_super _ _)) (fun v s' hv => ?_) fun _ _ z => z.elim
  obtain ⟨rfl, rfl⟩ := hv
  exact wpAny_pure (wpAny_pure q)
end
/-! ### the call of what was bound -/
section
variable {prog : Program} {w : World} {M : Model} {A : Around} {E : Value → Shared → Prop} {s : Shared}
theorem with_bnd {pos : Pos} {u x : Addr} {first : List Value} {args : List (Bool × Sem Value)} {Q : Value → Shared → Prop} (no : args.any (·.1) = false)
    (k : wpAny M A (evalArgs (.ref u) true args []) (fun a s1 => s1.heap.get? u = some (bnd x) ∧ wpAny M A (call (.ref u) (first ++ a.pos) a.kw) Q E s1) E s) : wpAny M A (callWith pos (.ref u) first args []) Q E s := by
  unfold callWith
  refine wpAny_bind (wpAny_holding (wpAny_mono k (fun a s1 k1 => wpAny_bind (wpAny_standAt ?_)) fun _ _ z => z))
  obtain ⟨ho, go⟩ := k1
  simp only [no, List.any_nil, Bool.or_false]
  refine wpAny_bind (m := keeperOf (.ref u)) ?_
  unfold keeperOf
  refine wpAny_bind (wpAny_load ho ?_)
  have n1 : (Value.type "method-wrapper" != Value.type "method") = true := by decide
  have n2 : (Value.type "method-wrapper" == Value.type "builtin_function_or_method" || Value.type "method-wrapper" == Value.type "method-wrapper") = true := by decide
  simp only [bnd, n1, n2, if_true]
  refine wpAny_pure (wpAny_bind (wpAny_mono go (fun r s2 hr => ?_) fun _ _ z => z))
  exact wpAny_bind (wpAny_holding (wpAny_point (wpAny_pure hr)))
end
section
variable {prog : Program} {w : World} {A : Around} {E : Value → Shared → Prop} {h : Heap} {g : Array GenState} {d : Drawn} {t : Nat} {os : OsState}
variable {nm q : Str} {C N : Addr} {bs bm : List Value} {hdct : Bool} {sn : List Str} {sub : List Value} {ab : Bool} {col : Option Bool} {dd : Option Addr} {k0 k1 k2 k3 k5 : Option Value}
theorem run_bnd {u e : Addr} {oe : Obj} {rest : List Value} {Q : Value → Shared → Prop}
    (hC : h.get? C = some (excClassObj nm q C N bs bm hdct sn sub ab col dd k0 k1 k2 k3 k5 "ValueError.__new__")) (he : h.get? e = some oe) (hu : h.get? u = some (bnd e)) (hcl : oe.cls = .ref C) (hz : rest.length ≤ sizeLine) {t1 : Addr} {dx : Option Addr}
    (ho : oe = { cls := .ref C, dict := dx, data := .fields #[.ref t1, .none, .none, .none, .bool false, .none] })
    (hq : ∀ h' t2, (∀ b o, b ≠ e → h.get? b = some o → h'.get? b = some o) → h'.get? e = some ({ cls := .ref C, dict := dx, data := .fields #[.ref t2, .none, .none, .none, .bool false, .none] } : Obj) → Q .none ⟨h', g, d, t, os⟩) :
    wpAny (model prog w) A (call (.ref u) rest) Q E ⟨h, g, d, t, os⟩ := by
  subst ho
  refine wpAny_call (codeAny_of_tree ?_)
  show wpAny _ A.in1 (callAny (.ref u) ⟨rest, []⟩) _ _ _
  simp only [callAny]
  refine wpAny_bind (wpAny_load hu ?_)
  have n3 : (Value.type "method-wrapper" == Value.type "method" || Value.type "method-wrapper" == Value.type "builtin_function_or_method" || Value.type "method-wrapper" == Value.type "method-wrapper") = true := by decide
  simp only [bnd, n3, if_true]
  refine KFB.if_so (by decide) (wpAny_bind (ESX.check_bound F.excBase_ValueError hC he rfl ?_))
  refine wpAny_bind (wpAny_pure (wpAny_pure ⟨Code.quiet_builtin _ (by decide +kernel), codeAny_builtin F.excBase_ValueError.initEntry ?_⟩))
  rw [Around.under_plainId F.excBase_ValueError.init.plain _]
  wp_walk
  refine hq _ h.objs.size (fun b o hb ho => ?_) ?_
  · rw [Heap.get?_update_other _ _ (Ne.symm hb)]
    exact Heap.get?_push_of_some _ ho
  · rw [Heap.get?_update_self _ (Heap.get?_push_of_some _ he) rfl]
    rfl
end
end Mx

set_option maxHeartbeats 2000000
namespace Mx
open PySem PySem.Spec PyProof.Rows L2 NdefX
/-! ### an own exception's __init__: super().__init__(..), then its fields -/
abbrev IX (CX : CXT) (P : Program) (w : World) (K : PySem.W.Frag) (mg : Str → Option Value) (base : Heap) (N : List Str) (F : NF) (f : Addr) (A : Around) (outer : List Env) (s : Shared) (H : Hp) (E : XK) : Cx := ncx CX P w K mg base N F f A outer s H E
def spI (C : Addr) (n : Nat) (N : List Str) (t : TA) (r : TS) : Sp := fun vs H Q _ => vs.length = n + 1 ∧ ∃ a ws, vs = .ref a :: ws ∧ H a = some (exo a C none) ∧
  t (startF N vs [none]) H fun us H1 => us.length ≤ 1000 ∧ H1 a = some (exo a C none) ∧ r { nx := fun _ H' => Q .non H', rt := Q } (startF N vs [none]) H1
section
variable {CX : CXT} {P : Program} {w : World} {K : PySem.W.Frag} {mg : Str → Option Value} {base : Heap} {N ps : List Str} {F : NF} {fI C : Addr} {fd : FuncData} {k : Nat} {self : Str}
theorem ini_ok {oc ccl cl dV kV doc pm ct : Value} {an od cdd cld : Option Addr} {osl ccs csl : Array (Option Value)} {vs : Array Value} {fl : Str} {tf : Tok} {cc : Addr} {ar : Arg} {e : Expr} {es : List Expr} {rest : List Stmt} {p0 p1 p2 p3 p4 : Pos} {t : TA} {r : TS} {pl : Env → Sem Bool}
    (T : OexC K C) (efd : fd = PySem.W.fnX F.name F.qual F.params F.body F.scope F.cl dV kV doc pm an (.ref F.c) ct) (ecl : F.cl = [(("__class__" : Str), cc)]) (eb : F.body = .Expr (.Call (.Attribute (.Call (.Name "super" p0) [] [] p1) "__init__" p2) (e :: es) [] p3) p4 :: rest)
    (hf : K.lookup fI = some ⟨oc, od, .func fd, osl⟩) (hcd : PySem.W.codeIn K (.ref F.c) F.qual = true) (hcode : K.lookup F.c = some ⟨ccl, cdd, .fields vs, ccs⟩) (hvs : vs[2]? = some (.str fl tf)) (hfile : ((P.main.file : Str) == fl) = true)
    (hcell : K.lookup cc = some ⟨cl, cld, .cell (some (.ref C)), csl⟩) (hsuper : mg "super" = none) (hop : PySem.W.nsIn K cStatics "thirdparty.any" = some none) (hal : PySem.W.ks_superIn K C C "__init__" = some (some (.builtin vInit)))
    (hks : F.scope.names.lookup ("super" : Str) = some .globalImplicit) (htop : (P.main.scope.names.lookup ("super" : Str)).isSome = false) (hpar : (F.params.posonlyargs ++ F.params.args).head? = some ar) (har : ar.arg = self)
    (S : NScope N (self :: ps) ["__class__"] F.scope) (hA : ∀ A outer s H E, PA (IX CX P w K mg base N F fI A outer s H E) (e :: es) t) (hR : ∀ A outer s H E, PSs (IX CX P w K mg base N F fI A outer s H E) rest r)
    (hst : ∀ env, (backTo p3 (starEach (e :: es) env)).any (·.1) = false)
    (he : ∀ env, starEach (e :: es) env = (false, eval e env) :: starEach es env)
    (hcall : ∀ (env : Env), eval (.Call (.Attribute (.Call (.Name "super" p0) [] [] p1) "__init__" p2) (e :: es) [] p3) env = (do
      let ov ← attributeBase (.Call (.Name "super" p0) [] [] p1) "__init__" env (eval (.Call (.Name "super" p0) [] [] p1) env)
      standAt p2.atName
      let (f, first) ← holding [ov] (getMethod ov "__init__" (pl env))
      callWith p3 f first (backTo p3 (starEach (e :: es) env)) [])) (hsw : ∀ env, swapsWith (.Call (.Attribute (.Call (.Name "super" p0) [] [] p1) "__init__" p2) (e :: es) [] p3) none p4.line env = pure false) :
    FnOk P w K mg base CX (k + 1) fI fd (self :: ps) (spI C ps.length N t r) := by
  refine ⟨fun vs H Q E h => h.1, fun A outer s H cargs us vs0 Q E hr e0 hb rv h => ?_⟩
  obtain ⟨hl, a, ws, rfl, ha, h⟩ := h
  have KB : K.In base := e0.mod.kin
  have KS : K.In s.heap := KB.keeps fun b o e => (e0.bs b o e).1
  have lim : s.heap.NoLimit := e0.mod.nolimit.keeps fun b o e => (e0.bs b o e).1
  have cells : CellsAt F.cl ["__class__"] [none] s.heap H := by
    rw [ecl]
    refine ⟨rfl, fun y c e => ?_, fun x y c e1 e2 => ?_, fun i y e => ?_⟩
    · rw [List.lookup_cons] at e
      split at e
      · cases e
        exact ⟨(e0.bs _ _ (KB _ _ hcell)).2, _, _, KS _ _ hcell, rfl⟩
      · cases e
    · rw [List.lookup_cons] at e1 e2
      split at e1
      · split at e2
        · rename_i z1 _ z2
          exact (eq_of_beq z1).trans (eq_of_beq z2).symm
        · cases e2
      · cases e1
    · cases i with
      | zero =>
        cases e
        exact ⟨cc, by simp [List.lookup], fun v z => by cases z⟩
      | succ i => cases e
  refine PySem.ks_codeAny_call_defAt (fd := fd) (body := F.body) (binds := (self :: ps).zip us) hr.depth (KS _ _ hf) rfl lim ?_ (by rw [efd]) hb (by rw [efd]; exact S.nocell) (by rw [efd]; exact fun y hy => S.par _ (List.of_mem_zip (show (y.1, y.2) ∈ _ from hy)).1) (fun h₁ hns kp => ?_) (by rw [efd]; exact S.co) (by rw [efd]; exact S.gen) (by rw [efd]; exact S.kind)
  · rw [efd]
    exact PySem.W.codeRec_of KS hcd
  have I : Inv (IX CX P w K mg base N F fI A outer s H E) [] (startF N (.ref a :: ws) [none]) H { s with heap := h₁, toks := s.toks + ((self :: ps).zip us).length } := inv_startN S hr.hd e0 hl rv cells hns kp
  have eenv : callEnv fd s.heap.objs.size fI = envF F fI s.heap.objs.size := by rw [efd]; rfl
  rw [eenv, eb]
  refine PySem.ks_wpAt_execs_cons (PySem.ks_wpAt_Expr_any (PySem.ks_wpAt_MethodCall ?_ (hcall _)) (by unfold interactive; show (F.scope.kind == .module && _) = false; rw [S.kind]; rfl) (hsw _))
  obtain ⟨nm, qn, Nc, bs, bm, sn, sub, ab, col, dd, k0, k1, k2, k3, k5, hC, hbm⟩ := id T.cls
  obtain ⟨cdd', ecd, hcl, emro⟩ : ∃ cd : ClassData, K.lookup C = some (excClassObj nm qn C Nc bs bm true sn sub ab col dd k0 k1 k2 k3 k5 "ValueError.__new__") ∧ PySem.W.clsIn K C = some cd ∧ cd.mro = .ref C :: bm :=
    ⟨{ name := nm, bases := bs, mro := .ref C :: bm, ns := Nc, qualname := qn, hasDict := true, slotNames := sn, subclasses := sub, abstract := ab, collection := col, hasDel := false }, hC, by unfold PySem.W.clsIn; rw [hC] <;> rfl, rfl⟩
  have hdrop : ((.ref C :: bm : List Value).dropWhile (· != .ref C)).drop 1 = bm := ESX.drop_own C bm
  have al : PySem.W.alongIn K "__init__" (((.ref C :: bm : List Value).dropWhile (· != .ref C)).drop 1) = some (some (.builtin vInit)) := by
    unfold PySem.W.ks_superIn at hal
    rw [hcl, Option.bind_some, emro] at hal
    exact hal
  obtain ⟨m, Lns, Lh⟩ := I.loc
  -- the instance
  obtain ⟨t1, hoe⟩ := exo_at I.hok ha
  have KH : K.In h₁ := I.kIn
  have hCs : h₁.get? C = some (excClassObj nm qn C Nc bs bm true sn sub ab col dd k0 k1 k2 k3 k5 "ValueError.__new__") := KH _ _ hC
  have hC1 : ∃ oD, h₁.get? C = some oD ∧ oD.data = .cls cdd' := by
    unfold PySem.W.clsIn at hcl
    rw [hC] at hcl
    refine ⟨_, hCs, ?_⟩
    cases hcl
    rfl
  obtain ⟨oD, hD1, hD2⟩ := hC1
  have hself : m self = some (.ref a) := by
    have hN : N[0]? = some self := by
      have q := S.pre
      cases hN : N with
      | nil => rw [hN] at q; simp at q
      | cons x N' =>
        rw [hN] at q
        simp only [List.length_cons, List.length_nil, List.cons_append, List.take_succ_cons] at q
        rw [(List.cons.inj q).1]
        rfl
    obtain ⟨u, ru, lk⟩ := Lh 0 self (.ref a) hN (by unfold startF; rfl) (.inl (S.par _ List.mem_cons_self))
    obtain rfl : u = Value.ref a := ru
    rcases lk with ⟨_, q⟩ | ⟨q, _⟩
    · exact q
    · have z := S.par self List.mem_cons_self
      have q : F.scope.names.lookup self = some .cell ∨ F.scope.names.lookup self = some .free := q
      rw [z] at q
      rcases q with q | q <;> cases q
  have hkc : F.scope.names.lookup ("__class__" : Str) = some .free := S.frk _ (List.mem_singleton.mpr rfl)
  obtain ⟨mb, b1, b2⟩ := I.mod.blt
  have neC : a ≠ C := fun z => by
    have q := (e0.bs _ _ (KB _ _ hC)).2
    rw [← z, ha] at q
    cases q
  refine PySem.ks_wpAt_super_base (env := envF F fI s.heap.objs.size) (f := fI) hks hkc (by decide +kernel) rfl (KH _ _ hf) rfl (by rw [efd]; exact hpar) rfl (KH _ _ hcode) rfl hvs hfile htop ?_
  refine PySem.W.ks_loadName_global S.kind hks (Calls.loadGlobal_builtin (I.mod.glob.keeps I.bk) hsuper (b1.keeps I.bk) ((b2 _ (by decide +kernel)).trans PyProof.Rows.Boot.«super») ⟨rfl, ?_⟩)
  refine wpAny_loadName_free (c := cc) S.kind hkc (by show F.cl.lookup _ = _; rw [ecl]; simp [List.lookup]) ⟨_, KH _ _ hcell, rfl⟩ ?_
  refine wpAny_loadName_local S.kind (by rw [har]; exact S.par _ List.mem_cons_self) Lns (by rw [har]; exact hself) ?_
  refine PySem.ks_wpAny_isType_cls hD1 hD2 ⟨rfl, ?_⟩
  have inst : PySem.W.InstAt h₁ a _ C none := ⟨hoe, rfl, rfl, trivial⟩
  have sub1 : PySem.W.mroIn K C (.ref C) = some true := by
    unfold PySem.W.mroIn
    rw [hcl, Option.bind_some, emro]
    simp
  have isVE : PySem.W.mroIn K C (.type "ValueError") = some true := by
    unfold PySem.W.mroIn
    rw [hcl, Option.bind_some, emro, if_neg (by simp)]
    exact congrArg some ((PySem.HandSPX.refsVE_contains "ValueError" (.ref C :: bm) hbm).trans (by decide +kernel))
  refine PySem.ks_wpAny_call_super hD1 hD2 hoe rfl (fun c e => by cases e) (PySem.W.looks_mroIn KH sub1) (fun h2 eso k2 => ?_)
  have KH2 : K.In h2 := KH.keeps k2
  have inst2 : PySem.W.InstAt h2 a _ C none := ⟨k2 _ _ hoe, rfl, rfl, trivial⟩
  have sup : SupA (model P w) h2 K h₁.objs.size C a C (.ref C :: bm) := ⟨eso, PySem.W.looks_opaque KH2 hop, by rw [← emro]; exact fun A Q E s k q => wpAny_bind ((PySem.W.looks_clsIn KH2 hcl) A _ E s k (wpAny_pure q)), KH2, al, neC, inst2.type.andThen (PySem.W.looks_mroIn KH2 isVE)⟩
  refine sup_method sup ?_
  have k3 : ∀ b o, h₁.get? b = some o → (h2.push (bnd a)).get? b = some o := fun b o e => Heap.get?_push_of_some _ (k2 _ _ e)
  have I2 : Inv (IX CX P w K mg base N F fI A outer s H E) [] (startF N (.ref a :: ws) [none]) H { s with heap := h2, toks := s.toks + ((self :: ps).zip us).length } := I.kept k2
  have I3 : Inv (IX CX P w K mg base N F fI A outer s H E) [] (startF N (.ref a :: ws) [none]) H { s with heap := h2.push (bnd a), toks := s.toks + ((self :: ps).zip us).length + 1 } := I.kept k3
  have fpu : FpOk (IX CX P w K mg base N F fI A outer s H E) [] H h2.objs.size := I2.fpOk (Nat.le_refl _) (I2.hok.fresh (Nat.le_refl _))
  have gu : (h2.push (bnd a)).get? h2.objs.size = some (bnd a) := Heap.get?_push_at rfl rfl
  have I4 := I3.pinned (fp := [h2.objs.size]) (fun b hb => by rw [List.mem_singleton.mp hb]; exact fpu) (fun b hb => by rw [List.mem_singleton.mp hb]; exact ⟨_, gu, fun v z => by cases z⟩)
  refine with_bnd (x := a) (hst _) ?_
  rw [he]
  refine Calls.evalArgs_plain ?_
  have run := (hA A outer s H E).run p3 _ _ _ _ _ I4 h
  rw [he] at run
  refine thn run fun us1 s5 ⟨vs1, H1, I5, r5, l5, a5, q5⟩ => ?_
  have pu := I5.pin (h2.objs.size, bnd a) (List.mem_append_right _ (List.mem_append_right _ (mem_pinsAt (List.mem_singleton.mpr rfl) gu)))
  refine ⟨pu.1, ?_⟩
  obtain ⟨t5, ho5⟩ := exo_at I5.hok a5
  obtain ⟨hp5, g5, d5, tk5, os5⟩ := s5
  refine run_bnd (I5.kIn _ _ hC) ho5 pu.1 rfl (by rw [List.nil_append, ← r5.length, sizeLine_eq]; omega) rfl (fun h6 t6 k6 e6 => ?_)
  have J := I5.write (t' := tk5) (x := a) (e := a) (o := exo a C none) (by rw [a5]; exact True.intro) (.inl rfl) k6 ⟨_, e6⟩ (exo_ok e6)
  have eu : upd H1 a (exo a C none) = H1 := by
    funext b
    by_cases hb : b = a
    · rw [hb, upd_same, a5]
    · rw [upd_ne hb]
  rw [eu] at J
  refine wpAt_of_wpAny (wpAny_mono ((hR A outer s H E).run [] _ _ H1 _ (J.unpinned (pins := [])) q5) (fun fl s' hs => ?_) fun e s' hs => hs)
  have fin : ∀ {σ' : L2.St} {H' : Hp} {v : V} {u : Value}, Inv (IX CX P w K mg base N F fI A outer s H E) [] σ' H' s' → L2.RelV v u → Q v H' → CE outer P w H s Q u s' :=
    fun {σ' H' v u} J rv q => ⟨v, H', J.os, J.bare, J.base, J.hok, rv, q⟩
  cases fl with
  | ret u =>
    obtain ⟨v, σ', H', J, rv, q⟩ := hs
    exact fin J rv q
  | next =>
    obtain ⟨σ', H', J, q⟩ := hs
    exact fin (v := V.non) (u := Value.none) J rfl q
  | brk =>
    obtain ⟨_, _, _, q⟩ := hs
    exact False.elim q
  | cont =>
    obtain ⟨_, _, _, q⟩ := hs
    exact False.elim q
end
end Mx

set_option maxHeartbeats 2000000
namespace Mx
open PySem PySem.Spec PyProof.Rows L2
/-! ### try with several except clauses, each with a name or without -/
/-- a clause: its class, the slot of its name, what its suite wishes -/
structure Cl where
  c : Value
  i : Option Nat
  ts : Addr → Value → Option Addr → TS
/-- the ends of a suite whose name goes -/
def goneD (i : Nat) (D : Ends) : Ends := { nx := fun σ H => D.nx (σ.set i none) H, rt := D.rt, bk := fun σ H => D.bk (σ.set i none) H, ct := fun σ H => D.ct (σ.set i none) H }
def Cl.wish (q : Cl) (D : Ends) (a : Addr) (cls : Value) (d : Option Addr) (σ : L2.St) (H : Hp) : Prop := match q.i with
  | none => q.ts a cls d D σ H
  | some i => q.ts a cls d (goneD i D) (σ.set i (some (.ref a))) H
def wCl (K : PySem.W.Frag) (Wout : WX) (D : Ends) : List Cl → WX
  | [] => Wout
  | q :: r => fun cls d σ H => ∃ b, PySem.W.exmOne K cls q.c = some b ∧ (b = true → ∀ a, H a = none → q.wish D a cls d σ H) ∧ (b = false → wCl K Wout D r cls d σ H)
/-- a clause's text -/
inductive ClOk (X : Cx) : List ExceptHandler → List Cl → Prop
  | nil : ClOk X [] []
  | cons {x : Str} {nm : Option Str} {q : Cl} {b₀ : Stmt} {suite : List Stmt} {np pos' : Pos} {hds : List ExceptHandler} {l : List Cl} (hc : Names X x q.c)
      (hn : match nm, q.i with
        | none, none => True
        | some n, some i => X.N.Nodup ∧ X.N[i]? = some n ∧ X.env.kindOf n = some .local
        | _, _ => False)
      (hsu : ∀ (a : Addr) (oe : Obj) (cls : Value) (d : Option Addr) (pn : List (Addr × Obj)), Zc cls d oe → (∃ vs, oe.data = .fields vs) → PSs (X.suite a ((a, oe) :: pn)) (b₀ :: suite) (q.ts a cls d)) (r : ClOk X hds l) :
      ClOk X (.ExceptHandler (some (.Name x np)) nm (b₀ :: suite) pos' :: hds) (q :: l)
section
variable {X : Cx} {body : List Stmt} {h₀ : ExceptHandler} {hds : List ExceptHandler} {l : List Cl} {pos : Pos} {tb : WX → TS} {Wout : WX}
theorem ps_try_cl (hs : X.stack = X.env :: X.outer) (hf : X.env.frame = some X.env.locals) (tk : Takes X Wout)
    (hb : ∀ (W : WX) (pn : List (Addr × Obj)) (xe : Value → Shared → Prop), Takes (X.tr pn xe) W → PassesOwn (model X.prog X.w) X.A X.env xe → PSs (X.tr pn xe) body (tb W))
    (hh : ClOk X (h₀ :: hds) l) : PS X (.Try body (h₀ :: hds) [] [] pos) (fun D σ H => tb (wCl X.K Wout D l) D σ H) := by
  refine ⟨fun pins s σ H D I h => ?_⟩
  have ok := I.ok
  have hfr : X.A.frames = some (X.env :: X.outer) := by rw [ok.frames, hs]
  refine wpAny_Try_except ?_
  let onX : Value → Shared → Prop := fun e s₁ => wpAny (model X.prog X.w) X.A (noteFrame e X.env) (fun _ s₂ => wpAny (model X.prog X.w) X.A (setFlight e none) (fun _ s₃ => wpAny (model X.prog X.w) X.A (handleBy e X.env (h₀ :: hds)) (SP X pins D) X.xe s₃) X.xe s₂) X.xe s₁
  refine wpAny_mono ((hb (wCl X.K Wout D l) (X.pn ++ pins) onX (fun u s' xx => ?_) PassesOwn.looking).run [] s σ H D (I.toTry _) h) (fun f s1 hsp => ?_) (fun e s1 he => he)
  · obtain ⟨a, B, sI, pins', σ', H', cls, d, rfl, J', nb, up, sky, na, os, ag, w⟩ := xx
    have J : Inv X pins σ' H' sI := J'.ofTry ok
    have sky' : Sky B (X.env :: X.outer) a (Zc cls d) X.env.locals s'.heap := by rw [← hs]; exact sky
    show wpAny (model X.prog X.w) X.A (noteFrame (.ref a) X.env) _ _ _
    refine Sky.land Zc.steady hfr hf sky' fun h3 fl3 up3 => ?_
    have J3 : Inv X pins σ' H' { s' with heap := h3 } := J.landed nb fl3.1 (up.trans up3) os ag
    obtain ⟨oe3, vs3, he3, hz3, hd3⟩ := fl3.there
    have nfr : a ∉ frs (X.env :: X.outer) := fun hm => by
      obtain ⟨_, o', e', hnf⟩ := fl3.2.2.1.mem hm
      rw [he3] at e'
      cases e'
      exact hnf _ hd3
    have nL : a ≠ X.env.locals := fun z => nfr (List.mem_filterMap.mpr ⟨X.env, List.mem_cons_self, by rw [hf, z]⟩)
    have nF : a ∉ X.fs := fun hm => by
      obtain ⟨e, he, q⟩ := List.mem_filterMap.mp hm
      exact nfr (List.mem_filterMap.mpr ⟨e, List.mem_cons_of_mem _ he, q⟩)
    have S3 := J3.suite he3 hd3 na nL nF
    have go : ∀ {hds' : List ExceptHandler} {l' : List Cl}, ClOk X hds' l' → wCl X.K Wout D l' cls d σ' H' →
        wpAny (model X.prog X.w) X.A (handleBy (.ref a) X.env hds') (SP X pins D) X.xe { s' with heap := h3 } := by
      intro hds' l' hk
      induction hk with
      | nil =>
        intro w
        refine wpAny_handleBy_nil ?_
        obtain ⟨k1, k2, k3, oe, vs, T, oT, ts', he, hz, hd, h1, hr⟩ := id fl3
        unfold PySem.passOn
        refine wpAny_bind (wpAny_field he hd h1 ?_)
        rw [if_neg (show ¬ ((Value.ref T == Value.none) = true) from by simp)]
        have fin : wpAny (model X.prog X.w) X.A (setFlight (.ref a) X.env.frame) (fun _ s4 => wpAny (model X.prog X.w) X.A (throw (.ref a) : Sem Flow) (SP X pins D) X.xe s4) X.xe { s' with heap := h3 } := by
          rw [hf]
          refine HandSPX.setFlight_upZ fl3 fun h4 hh4 up4 => wpAny_throw (tk _ _ ?_)
          exact ⟨a, B, sI, pins, σ', H', cls, d, rfl, J, nb, (up.trans up3).trans up4, .inr (.inr (by rw [hs]; exact hh4)), na, os, ag, w⟩
        first
          | exact wpAny_bind (wpAny_pure (wpAny_bind fin))
          | exact wpAny_bind fin
      | @cons x nm q b₀ suite np pos' hds2 l2 hc hn hsu r ih =>
        intro w
        obtain ⟨b, hb1, hyes, hno⟩ := w
        refine wpAny_handleBy_cons (codeAny_handlers_test ?_) (by intro q; cases q)
        have LT : PySem.W.Looks (model X.prog X.w) h3 (typeOf (.ref a)) cls := fun A Q E s k q => wpAny_typeOf_ref (k _ _ he3) (by rw [hz3.1]; exact q)
        have LM := PySem.W.exm_one (M := model X.prog X.w) (J3.kIn) LT hb1
        have test : ∀ {Q : Value → Shared → Prop} {E : Value → Shared → Prop}, Q q.c { s' with heap := h3 } → wpAny (model X.prog X.w) (X.A.mark (some (.ref a))) (eval (.Name x np) X.env) Q E { s' with heap := h3 } := fun {Q E} q => by
          obtain ⟨hg, hdbg, hm | ⟨hm, hv, hnn⟩⟩ := hc
          · exact ld_glob (X := X.suite a ((a, oe3) :: (X.pn ++ pins))) S3 hg hm q hdbg
          · exact ld_blt (X := X.suite a ((a, oe3) :: (X.pn ++ pins))) S3 hg hm hv q hnn hdbg
        refine test (LM.here ?_)
        cases b with
        | true =>
          have wish := hyes rfl a na
          unfold Cl.wish at wish
          cases nm with
          | none =>
            cases ei : q.i with
            | some i => rw [ei] at hn; exact hn.elim
            | none =>
              rw [ei] at wish
              refine codeAny_handlers_suite ?_
              refine HandSPX.lands_againZ fl3 fun h4 fl4 up4 => ?_
              have J4 : Inv X pins σ' H' { s' with heap := h4 } := J.landed nb fl4.1 ((up.trans up3).trans up4) os ag
              obtain ⟨oe4, vs4, he4, hz4, hd4⟩ := fl4.there
              have S4 := J4.suite he4 hd4 na nL nF
              refine wpAny_mono ((hsu a oe4 cls d (X.pn ++ pins) hz4 ⟨_, hd4⟩).run [] _ _ H' _ S4 wish) (fun f s6 hsp => ?_) (fun _ _ z => False.elim z)
              cases f with
              | next =>
                obtain ⟨σ6, H6, S6, q6⟩ := hsp
                exact ⟨_, _, S6.unsuite ok, q6⟩
              | brk =>
                obtain ⟨σ6, H6, S6, q6⟩ := hsp
                exact ⟨_, _, S6.unsuite ok, q6⟩
              | cont =>
                obtain ⟨σ6, H6, S6, q6⟩ := hsp
                exact ⟨_, _, S6.unsuite ok, q6⟩
              | ret u =>
                obtain ⟨v6, σ6, H6, S6, r6, q6⟩ := hsp
                exact ⟨_, _, _, S6.unsuite ok, r6, q6⟩
          | some n =>
            cases ei : q.i with
            | none => rw [ei] at hn; exact hn.elim
            | some i =>
              rw [ei] at hn wish
              obtain ⟨hN, hi, hln⟩ := hn
              refine codeAny_handlers_suite_as ?_
              refine HandSPX.lands_againZ fl3 fun h4 fl4 up4 => ?_
              have J4 : Inv X pins σ' H' { s' with heap := h4 } := J.landed nb fl4.1 ((up.trans up3).trans up4) os ag
              obtain ⟨oe4, vs4, he4, hz4, hd4⟩ := fl4.there
              have S4 := J4.suite he4 hd4 na nL nF
              have hloc : Loc X.env.scope n := .inl hln
              refine store_ok (X := X.suite a ((a, oe4) :: (X.pn ++ pins))) (v := .ref a) S4 hN hi hloc rfl (fun s5 S5 => ?_) (.inr hln)
              refine wpAny_mono ((hsu a oe4 cls d (X.pn ++ pins) hz4 ⟨_, hd4⟩).run [] s5 _ H' _ S5 wish) (fun f s6 hsp => ?_) (fun _ _ z => False.elim z)
              have end_ : ∀ {σ6 : L2.St} {H6 : Hp} {Q : Shared → Prop}, Inv (X.suite a ((a, oe4) :: (X.pn ++ pins))) [] σ6 H6 s6 → (∀ s7, Inv X pins (σ6.set i none) H6 s7 → Q s7) →
                  wpAny (model X.prog X.w) X.A (do bindName X.env n .none; unbindBehindTheSuite X.env n pos') (fun _ s7 => Q s7) X.xe s6 := fun {σ6 H6 Q} S6 hq => gone_ok (S6.unsuite ok) hN hi hln hq
              cases f with
              | next =>
                obtain ⟨σ6, H6, S6, q6⟩ := hsp
                exact end_ S6 fun s7 J7 => ⟨_, _, J7, q6⟩
              | brk =>
                obtain ⟨σ6, H6, S6, q6⟩ := hsp
                exact end_ S6 fun s7 J7 => ⟨_, _, J7, q6⟩
              | cont =>
                obtain ⟨σ6, H6, S6, q6⟩ := hsp
                exact end_ S6 fun s7 J7 => ⟨_, _, J7, q6⟩
              | ret u =>
                obtain ⟨v6, σ6, H6, S6, r6, q6⟩ := hsp
                exact end_ S6 fun s7 J7 => ⟨_, _, _, J7, r6, q6⟩
        | false =>
          show wpAny _ X.A (handleBy (.ref a) X.env hds2) _ _ _
          exact ih (hno rfl)
    exact go hh w
  · cases f with
    | next =>
      obtain ⟨σ', H', J', q⟩ := hsp
      exact wpAny_execs_nil ⟨σ', H', J'.ofTry ok, q⟩
    | brk =>
      obtain ⟨σ', H', J', q⟩ := hsp
      exact ⟨σ', H', J'.ofTry ok, q⟩
    | cont =>
      obtain ⟨σ', H', J', q⟩ := hsp
      exact ⟨σ', H', J'.ofTry ok, q⟩
    | ret u =>
      obtain ⟨v, σ', H', J', r, q⟩ := hsp
      exact ⟨v, σ', H', J'.ofTry ok, r, q⟩
end
/-! ### a made exception, in short -/
/-- the promise of an own exception's __init__: the fields fs are set to what was handed over -/
def spE (C : Addr) (fs : List Str) : Sp := fun vs H Q _ => vs.length = fs.length + 1 ∧ ∃ a ws, vs = .ref a :: ws ∧ H a = some (exo a C none) ∧
  ∀ d H', H d = none → d ≠ a → H' a = some (exo a C (some d)) → H' d = some (exd d (fs.zip ws).reverse) → (∀ b, b ≠ a → b ≠ d → H' b = H b) → Q .non H'
/-- .. what C(e, ..) asks with it -/
theorem mkO_of {C : Addr} {fs : List Str} {vs : List V} {H1 : Hp} {Q : XK} (hl : vs.length = fs.length) (h0 : fs.length ≤ 1000) (q : ∀ d, H1 d = none → Q (.ref C) (some d) (upd H1 d (.xd (fs.zip vs).reverse))) :
    vs.length ≤ 1000 ∧ ∀ a, H1 a = none → spE C fs (.ref a :: (vs ++ [])) (upd H1 a (exo a C none))
      (fun v H2 => v = .non ∧ ∃ (d : Addr) (gs : List (Str × V)), H2 a = some (exo a C (some d)) ∧ H2 d = some (exd d gs) ∧ H1 d = none ∧ Q (.ref C) (some d) (upd (del H2 a) d (.xd gs))) (fun _ _ _ => False) := by
  refine ⟨by omega, fun a hn => ⟨by simp [hl], a, vs ++ [], rfl, upd_same, fun d H' hd hda ea ed eo => ⟨rfl, d, (fs.zip vs).reverse, ea, by rw [ed, List.append_nil], by rw [upd_ne hda] at hd; exact hd, ?_⟩⟩⟩
  have hd1 : H1 d = none := by rw [upd_ne hda] at hd; exact hd
  have e : upd (del H' a) d (.xd (fs.zip vs).reverse) = upd H1 d (.xd (fs.zip vs).reverse) := by
    funext b
    by_cases hb : b = d
    · rw [hb, upd_same, upd_same]
    · rw [upd_ne hb, upd_ne hb]
      by_cases hba : b = a
      · rw [hba, del_same, hn]
      · rw [del_ne hba, eo b hba hb, upd_ne hba]
  rw [e]
  exact q d hd1
/-- one field -/
theorem spE_1 {C : Addr} {f : Str} {N : List Str} {t : TA} {r : TS} {vs : List V} {H : Hp} {Q : VK} {E : XK} (h : spE C [f] vs H Q E)
    (ht : ∀ a y, vs = [.ref a, y] → ∀ R : List V → Hp → Prop, R [y] H → t (NdefX.startF N vs [none]) H R)
    (hr : ∀ a y, vs = [.ref a, y] → ∀ D : Ends, H a = some (exo a C none) → (∀ dx, H dx = none → dx ≠ a → D.nx (NdefX.startF N vs [none]) (upd (upd H dx (exd dx [(f, y)])) a (exo a C (some dx)))) → r D (NdefX.startF N vs [none]) H) : spI C 1 N t r vs H Q E := by
  obtain ⟨hl, a, ws, rfl, ha, q⟩ := h
  match ws, hl with
  | [y], _ =>
    refine ⟨rfl, a, [y], rfl, ha, ht a y rfl _ ⟨by simp, ha, hr a y rfl _ ha fun dx hd hda => ?_⟩⟩
    exact q dx _ hd hda upd_same (by rw [upd_ne hda, upd_same]; rfl) fun b h1 h2 => by rw [upd_ne h1, upd_ne h2]
/-- two fields -/
theorem spE_2 {C : Addr} {f g : Str} {N : List Str} {t : TA} {r : TS} {vs : List V} {H : Hp} {Q : VK} {E : XK} (h : spE C [f, g] vs H Q E)
    (ht : ∀ a y z, vs = [.ref a, y, z] → ∀ R : List V → Hp → Prop, R [y, z] H → t (NdefX.startF N vs [none]) H R)
    (hr : ∀ a y z, vs = [.ref a, y, z] → ∀ D : Ends, H a = some (exo a C none) → (∀ dx, H dx = none → dx ≠ a → D.nx (NdefX.startF N vs [none]) (upd (upd (upd H dx (exd dx [(f, y)])) a (exo a C (some dx))) dx (exd dx [(g, z), (f, y)]))) → r D (NdefX.startF N vs [none]) H) : spI C 2 N t r vs H Q E := by
  obtain ⟨hl, a, ws, rfl, ha, q⟩ := h
  match ws, hl with
  | [y, z], _ =>
    refine ⟨rfl, a, [y, z], rfl, ha, ht a y z rfl _ ⟨by simp, ha, hr a y z rfl _ ha fun dx hd hda => ?_⟩⟩
    exact q dx _ hd hda (by rw [upd_ne (Ne.symm hda), upd_same]) (by rw [upd_same]; rfl) fun b h1 h2 => by rw [upd_ne h2, upd_ne h1, upd_ne h2]
end Mx

set_option maxHeartbeats 2000000
namespace Mx
open PySem PySem.Spec PyProof.Rows L2 NdefX
/-! ### __init__ with one field, with two -/
/-- what the written part says of a class C and its __init__ at fI (F: its text) -/
structure IniK (P : Program) (K : PySem.W.Frag) (mg : Str → Option Value) (C fI : Addr) (F : NF) (fd : FuncData) : Prop where
  T : OexC K C
  efd : ∃ dV kV doc pm ct an, fd = PySem.W.fnX F.name F.qual F.params F.body F.scope F.cl dV kV doc pm an (.ref F.c) ct
  hf : ∃ oc od osl, K.lookup fI = some ⟨oc, od, .func fd, osl⟩
  hcd : PySem.W.codeIn K (.ref F.c) F.qual = true
  hcode : ∃ ccl cdd ccs vs fl tf, K.lookup F.c = some ⟨ccl, cdd, .fields vs, ccs⟩ ∧ vs[2]? = some (.str fl tf) ∧ ((P.main.file : Str) == fl) = true
  hcell : ∃ cc cl cld csl, F.cl = [(("__class__" : Str), cc)] ∧ K.lookup cc = some ⟨cl, cld, .cell (some (.ref C)), csl⟩
  hsuper : mg "super" = none
  hop : PySem.W.nsIn K cStatics "thirdparty.any" = some none
  hal : PySem.W.ks_superIn K C C "__init__" = some (some (.builtin vInit))
  htop : (P.main.scope.names.lookup ("super" : Str)).isSome = false
abbrev sup0 (p0 p1 p2 p3 p4 : Pos) (es : List Expr) : Stmt := .Expr (.Call (.Attribute (.Call (.Name "super" p0) [] [] p1) "__init__" p2) es [] p3) p4
abbrev put0 (f : Str) (q1 q2 q3 q4 : Pos) : Stmt := .Assign [.Attribute (.Name "self" q1) f q2] (.Name f q3) q4
def supEval (p0 p1 p2 p3 : Pos) (es : List Expr) : Prop := ∃ pl : Env → Sem Bool, ∀ env : Env, eval (.Call (.Attribute (.Call (.Name "super" p0) [] [] p1) "__init__" p2) es [] p3) env = (do
      let ov ← attributeBase (.Call (.Name "super" p0) [] [] p1) "__init__" env (eval (.Call (.Name "super" p0) [] [] p1) env)
      standAt p2.atName
      let (f, first) ← holding [ov] (getMethod ov "__init__" (pl env))
      callWith p3 f first (backTo p3 (starEach es env)) [])
section
variable {CX : CXT} {P : Program} {w : World} {K : PySem.W.Frag} {mg : Str → Option Value} {base : Heap} {F : NF} {fI C : Addr} {fd : FuncData} {k : Nat} {f g : Str}
theorem ex1_ok {p0 p1 p2 p3 p4 a1 q1 q2 q3 q4 : Pos} {ar : Arg} (J : IniK P K mg C fI F fd) (eb : F.body = [sup0 p0 p1 p2 p3 p4 [.Name f a1], put0 f q1 q2 q3 q4])
    (hev : supEval p0 p1 p2 p3 [.Name f a1]) (hks : F.scope.names.lookup ("super" : Str) = some .globalImplicit) (hpar : (F.params.posonlyargs ++ F.params.args).head? = some ar) (har : ar.arg = "self")
    (S : NScope ["self", f, "__class__"] ["self", f] ["__class__"] F.scope) (d1 : (f == ("__debug__" : Str)) = false) (d2 : (f == ("__classdict__" : Str)) = false) (hno : PySem.W.findIn K (.ref C) f = some none) :
    FnOk P w K mg base CX (k + 1) fI fd ["self", f] (spE C [f]) := by
  obtain ⟨pl, hev⟩ := hev
  obtain ⟨dV, kV, doc, pm, ct, an, efd⟩ := J.efd
  obtain ⟨oc, od, osl, hf⟩ := J.hf
  obtain ⟨ccl, cdd, ccs, vs, fl, tf, hcode, hvs, hfile⟩ := J.hcode
  obtain ⟨cc, cl, cld, csl, ecl, hcell⟩ := J.hcell
  have vs0 : Vis F.scope "self" := .inl (S.par _ List.mem_cons_self)
  have vs1 : Vis F.scope f := .inl (S.par _ (List.mem_cons_of_mem _ List.mem_cons_self))
  refine FnOk.imp (ini_ok (t := tCons (tVar 1) tNil) (r := tSeq (tOst K f (tVar 0) (tVar 1)) tNext) J.T efd ecl eb hf J.hcd hcode hvs hfile hcell J.hsuper J.hop J.hal hks J.htop hpar har S
    (fun A outer s H E => pa_cons (pe_var (i := 1) rfl vs1 d1 d2) pa_nil (by rfl)) (fun A outer s H E => pss_cons (st := put0 f q1 q2 q3 q4) (ps_ost (X := IX CX P w K mg base _ F fI A outer s H E) (pe_var (i := 0) (x := "self") rfl vs0) (pe_var (i := 1) rfl vs1 d1 d2)) pss_nil) (fun env => rfl) (fun env => rfl) hev (fun env => rfl)) fun vs H Q E h => spE_1 h (fun a y e R r => ?_) (fun a y e D ha hn => ?_)
  · subst e
    exact ⟨y, rfl, r⟩
  · subst e
    exact ⟨y, rfl, .ref a, rfl, a, C, rfl, J.T, hno, .inl ⟨ha, hn⟩⟩
theorem ex2_ok {p0 p1 p2 p3 p4 a1 a2 q1 q2 q3 q4 r1 r2 r3 r4 : Pos} {ar : Arg} (J : IniK P K mg C fI F fd) (eb : F.body = [sup0 p0 p1 p2 p3 p4 [.Name f a1, .Name g a2], put0 f q1 q2 q3 q4, put0 g r1 r2 r3 r4])
    (hev : supEval p0 p1 p2 p3 [.Name f a1, .Name g a2]) (hks : F.scope.names.lookup ("super" : Str) = some .globalImplicit) (hpar : (F.params.posonlyargs ++ F.params.args).head? = some ar) (har : ar.arg = "self")
    (S : NScope ["self", f, g, "__class__"] ["self", f, g] ["__class__"] F.scope) (d1 : (f == ("__debug__" : Str)) = false) (d2 : (f == ("__classdict__" : Str)) = false) (e1 : (g == ("__debug__" : Str)) = false) (e2 : (g == ("__classdict__" : Str)) = false) (hno : PySem.W.findIn K (.ref C) f = some none) (hng : PySem.W.findIn K (.ref C) g = some none) :
    FnOk P w K mg base CX (k + 1) fI fd ["self", f, g] (spE C [f, g]) := by
  obtain ⟨pl, hev⟩ := hev
  obtain ⟨dV, kV, doc, pm, ct, an, efd⟩ := J.efd
  obtain ⟨oc, od, osl, hf⟩ := J.hf
  obtain ⟨ccl, cdd, ccs, vs, fl, tf, hcode, hvs, hfile⟩ := J.hcode
  obtain ⟨cc, cl, cld, csl, ecl, hcell⟩ := J.hcell
  have vs0 : Vis F.scope "self" := .inl (S.par _ List.mem_cons_self)
  have vs1 : Vis F.scope f := .inl (S.par _ (List.mem_cons_of_mem _ List.mem_cons_self))
  have vs2 : Vis F.scope g := .inl (S.par _ (List.mem_cons_of_mem _ (List.mem_cons_of_mem _ List.mem_cons_self)))
  refine FnOk.imp (ini_ok (t := tCons (tVar 1) (tCons (tVar 2) tNil)) (r := tSeq (tOst K f (tVar 0) (tVar 1)) (tSeq (tOst K g (tVar 0) (tVar 2)) tNext)) J.T efd ecl eb hf J.hcd hcode hvs hfile hcell J.hsuper J.hop J.hal hks J.htop hpar har S
    (fun A outer s H E => pa_cons (pe_var (i := 1) rfl vs1 d1 d2) (pa_cons (pe_var (i := 2) rfl vs2 e1 e2) pa_nil (by rfl)) (by rfl)) (fun A outer s H E => pss_cons (st := put0 f q1 q2 q3 q4) (ps_ost (X := IX CX P w K mg base _ F fI A outer s H E) (pe_var (i := 0) (x := "self") rfl vs0) (pe_var (i := 1) rfl vs1 d1 d2)) (pss_cons (st := put0 g r1 r2 r3 r4) (ps_ost (X := IX CX P w K mg base _ F fI A outer s H E) (pe_var (i := 0) (x := "self") rfl vs0) (pe_var (i := 2) rfl vs2 e1 e2)) pss_nil)) (fun env => rfl) (fun env => rfl) hev (fun env => rfl)) fun vs H Q E h => spE_2 h (fun a y z e R r => ?_) (fun a y z e D ha hn => ?_)
  · subst e
    exact ⟨y, rfl, z, rfl, r⟩
  · subst e
    refine ⟨y, rfl, .ref a, rfl, a, C, rfl, J.T, hno, .inl ⟨ha, fun dx hd hda => ?_⟩⟩
    exact ⟨z, rfl, .ref a, rfl, a, C, rfl, J.T, hng, .inr ⟨dx, [(f, y)], upd_same, by rw [upd_ne hda, upd_same], by simp, hn dx hd hda⟩⟩
end
end Mx

set_option maxHeartbeats 2000000
/-! isinstance of a caught own exception that has fields -/
namespace MxI
open PySem PySem.W PySem.Spec PySem.Calls PyProof.Rows
section
variable {pr : Program} {wd : World} {Ar : Around} {Er : Value → Shared → Prop} {st : Shared} {Kf : Frag} {ex dc : Addr} {obE : Obj} {dOb : Option Obj}
/-- what the class says -/
structure ClsT (Kf : Frag) (dc : Addr) : Prop where
  hg : findIn Kf (.ref dc) "__getattribute__" = some (some (.builtin "BaseException.__getattribute__"))
  hk : findIn Kf (.ref dc) "__getattr__" = some none
  hs : subIn Kf (.ref dc) (.type "BaseException") = some true
  hd : hasDictIn Kf dc = true
  ha : findIn Kf (.ref dc) "__class__" = some (some (.builtin "object.__class__"))
  hn : specialIn Kf (.builtin "object.__class__") "__get__" = some (some (.builtin "getset_descriptor.__get__"))
  ht : takesIn Kf (.builtin "object.__class__") = some true
  hm : mroIn Kf dc (.type "object") = some true
theorem found_by (T : ClsT Kf dc) : findObj Kf dc dOb "__class__" = some (.bind (.builtin "getset_descriptor.__get__") (.builtin "object.__class__")) := by
  obtain ⟨cl, hcl, _⟩ := any_some T.hd
  have hcl' : clsIn Kf dc = some cl := hcl
  unfold findObj
  simp [hcl', T.ha, T.hn, T.ht]
theorem asked {Qo : Option Value → Shared → Prop} (T : ClsT Kf dc) (hK : Kf.In st.heap) (hI : PySem.W.InstAt st.heap ex obE dc dOb) (hQ : Qo (some (.ref dc)) { st with toks := st.toks + 1 }) :
    wpAny (model pr wd) Ar (getAttr? (.ref ex) "__class__") Qo Er st := by
  obtain ⟨h0, gl, dr, tk, oo⟩ := st
  have lkT := hI.type (M := model pr wd)
  have lkG := looks_findIn (M := model pr wd) hK T.hg
  have lkH := looks_findIn (M := model pr wd) hK T.hk
  have lkF := looks_find (M := model pr wd) hK hI (found_by T)
  have isE : Looks (model pr wd) h0 (isInstance (.ref ex) (.type "BaseException")) true := lkT.andThen (looks_subIn hK T.hs)
  have n2 : (Value.builtin "BaseException.__getattribute__" == Value.builtin "object.__getattribute__") = false := by decide +kernel
  have n1 : (onTheHeap (Value.ref dc) && Value.builtin "BaseException.__getattribute__" == Value.builtin "object.__getattribute__") = false := by rw [n2]; rfl
  have n0 : (false && onTheHeap (Value.builtin "BaseException.__getattribute__")) = false := rfl
  unfold getAttr? getAttrBy? getAttrBy
  refine wpAny_bind (wpAny_mkText (wpAny_bind (wpAny_attempt (wpAny_holding (wpAny_bind (lkT.at (wpAny_bind (lkG.at ?_))))))))
  show wpAny _ _ (if (onTheHeap (.ref dc) && Value.builtin "BaseException.__getattribute__" == .builtin "object.__getattribute__") = true then _ else _) _ _ _
  rw [n1, if_neg Bool.false_ne_true]
  unfold getAttrByItsOwn hookBefore
  apply wpAny_bind
  rw [if_pos (show onTheHeap (.ref dc) = true from rfl)]
  apply lkH.at
  refine wpAny_bind (wpAny_attempt (wpAny_holding ?_))
  unfold callGetattribute
  rw [n0, if_neg Bool.false_ne_true]
  unfold boundAndCalled
  rw [PySem.F.excAttr_ValueError.ga.bind (.ref ex)]
  refine wpAny_bind (wpAny_pure ?_)
  show wpAny _ _ (call (.builtin "BaseException.__getattribute__") [.ref ex, .str "__class__" tk]) _ _ _
  apply wpAny_call
  apply codeAny_call_builtin PySem.F.excAttr_ValueError.ga.plain PySem.F.entry_bexc_ga
  refine @check_slot (model pr wd) _ _ ⟨h0, gl, dr, tk + 1, oo⟩ "BaseException.__getattribute__" "BaseException" "__getattribute__" (.ref ex) [.str "__class__" tk] [] _ (by decide +kernel) (by decide +kernel) isE (PySem.F.args_bexc_ga (.ref ex) (.str "__class__" tk)) ?_
  unfold Builtin.«object.__getattribute__»
  refine wpAny_bind (wpAny_of_eq (a := ((.ref ex : Value), [Value.str "__class__" tk])) (by first | rfl | (simp only [slotArgs]; rfl)) ?_)
  refine wpAny_bind (wpAny_pure (wpAny_bind (lkT.at (wpAny_bind (lkF.at ?_)))))
  show wpAny _ _ (holding [.builtin "object.__class__"] (call (.builtin "getset_descriptor.__get__") [.builtin "object.__class__", .ref ex, .ref dc]) >>= ret) _ _ _
  refine wpAny_bind (wpAny_holding (wpAny_call (class_get (s := ⟨h0, gl, dr, tk + 1, oo⟩) (ox := obE) (od := dOb) hK hI T.hm ?_)))
  apply wpAny_pure
  show wpAny _ _ (handedOut (.ref dc)) _ _ _
  rw [handedOut_of (v := .ref dc) rfl]
  first
    | exact wpAny_pure (wpAny_pure hQ)
    | exact wpAny_pure hQ
    | exact wpAny_pure (wpAny_bind (wpAny_pure (wpAny_pure hQ)))
theorem kit_by (T : ClsT Kf dc) : KitX Kf (.ref ex) (.ref dc) (fun h => PySem.W.InstAt h ex obE dc dOb) := by
  obtain ⟨cl, hcl, _⟩ := any_some T.hd
  obtain ⟨c', d', s', hob⟩ : ∃ c' d' s', Kf.lookup dc = some ⟨c', d', .cls cl, s'⟩ := by
    have hcl : clsIn Kf dc = some cl := hcl
    unfold clsIn at hcl
    split at hcl
    · rename_i e
      cases hcl
      exact ⟨_, _, _, e⟩
    · cases hcl
  refine ⟨fun _ _ _ I => I.type, fun _ _ hK _ A Q E s kp q => ?_, fun h tp dd its n sl hK htp => ?_, fun hK hI q => asked T hK hI q⟩
  · unfold isType loadHead
    exact wpAny_bind (wpAny_loadPart (kp _ _ (hK _ _ hob)) (wpAny_pure q))
  · cases hb : ((.ref dc : Value) == .ref tp) with
    | false => rfl
    | true =>
      have : dc = tp := Value.ref.inj (eq_of_beq hb)
      subst this
      have := (hK _ _ hob).symm.trans htp
      cases this
end
end MxI
namespace L2
open PySem PySem.Spec PyProof.Rows
/-- isinstance(e, c): e the exception that the suite holds, of the class D, with fields -/
def rIsT (K : PySem.W.Frag) (D a : Addr) (cls : Value) (dd : Option Addr) : List V → Hp → VK → Prop := fun xs H Q => ∃ (C d : Addr) (fs : List (Str × V)), xs = [.ref a, .ref C] ∧ cls = .ref D ∧ dd = some d ∧ H d = some (.xd fs) ∧ PySem.W.kitOne K (.ref D) (.ref C) = some true ∧ Q (.bl true) H
theorem call_isT {X : Cx} {a D : Addr} {oe : Obj} {cls : Value} {dd : Option Addr} {pn : List (Addr × Obj)} (T : MxI.ClsT X.K D) (hz : Zc cls dd oe) (hf : ∃ vs, oe.data = .fields vs) : CallR (X.suite a ((a, oe) :: pn)) (.builtin "isinstance") (rIsT X.K D a cls dd) := by
  intro pins s σ H xs us Q I r h
  obtain ⟨C, d, fs, rfl, rfl, rfl, hd, e, q⟩ := h
  cases r with
  | cons rx rr =>
    cases rr with
    | cons rt rr =>
      cases rr
      cases rx
      cases rt
      obtain ⟨hget, _⟩ := I.pin (a, oe) (List.mem_append_left _ List.mem_cons_self)
      obtain ⟨vs, hv⟩ := hf
      have hx : ObjOk X.prog X.w H s.heap d (.xd fs) := I.hok d _ hd
      obtain ⟨mA, hns, _⟩ := hx
      obtain ⟨od, ho, _⟩ := lookIn_ns hns
      have J : PySem.W.InstAt s.heap a oe D (some od) := ⟨hget, hz.1, by unfold PySem.W.notCls; rw [hv] <;> rfl, by rw [hz.2]; exact ho⟩
      exact PySem.W.kia_one (MxI.kit_by T) I.kIn J e (fun z => nomatch z) fun tk => ⟨.bl true, H, I.kept (t' := tk) fun _ _ z => z, rfl, q⟩
end L2

/-! any, all of a generator expression, by the invariant: its element may call defs -/
namespace Mi
open PySem PySem.Spec PyProof.Rows L2 GxR GenW NdefX

theorem over_genL {A : Around} {elt tg iter : Expr} {ifs : List Expr} {scope : Scope} {pos : Pos} {it acc : Value} {env : PySem.Env} : A.over (.compLoop (.GeneratorExp elt [⟨tg, iter, ifs, 0⟩] scope pos) 0 it acc env) [] = A.deeper env := by
  first
    | rfl
    | (obtain ⟨hd, d, fr, gs, u⟩ := A; simp [Around.over, Around.deeper, marksOver, frameCount, unitsOf, envsOf, guardsOf, pushEnvs, pushGuards, Code.envs, Code.env?, Code.isFrame, Code.guards, Code.isGuard, Code.weight, Code.frames, Code.isCreation, Code.isCaller, Code.cUnits])
theorem over_genS {A : Around} {elt tg iter : Expr} {ifs : List Expr} {scope : Scope} {pos : Pos} {it acc : Value} {env : PySem.Env} : A.over (.compStart (.GeneratorExp elt [⟨tg, iter, ifs, 0⟩] scope pos) 0 it acc env) [] = A.deeper env := by
  first
    | rfl
    | (obtain ⟨hd, d, fr, gs, u⟩ := A; simp [Around.over, Around.deeper, marksOver, frameCount, unitsOf, envsOf, guardsOf, pushEnvs, pushGuards, Code.envs, Code.env?, Code.isFrame, Code.guards, Code.isGuard, Code.weight, Code.frames, Code.isCreation, Code.isCaller, Code.cUnits])
/-- the context of a generator expression's own frame; s, H: where it was made -/
abbrev gnx (X : Cx) (s : Shared) (H : Hp) (cenv : PySem.Env) (fp : List Addr) (B : Around) : Cx := { X with A := B.deeper cenv, s_0 := s, H_0 := H, env := cenv, outer := X.stack, stack := cenv :: X.stack, ex := fp, fn := fun _ => false, pn := [], xe := fun _ _ => False }
section
variable {X : Cx} {pins : List (Addr × Obj)} {σ : L2.St} {H : Hp} {s : Shared}
theorem inv_gen {scope : Scope} {own : List (Str × Nat)} {fp : List Addr} {B : Around} {code : Value} {h' : Heap} {m : Str → Option Value} {g' : Array GenState} {tk : Nat} (I : Inv X pins σ H s) (ok : BlkOk X.N X.env.scope scope own) (nc : ∀ y ∈ scope.names, y.2 ≠ .cell) (hN : X.N.Nodup)
    (hfp : ∀ b ∈ fp, FpOk X pins H b ∧ b < s.heap.objs.size) (hB : B.handled = none) (hfr : B.frames = some X.stack) (hns : h'.Ns s.heap.objs.size m) (kp : ∀ b o, s.heap.get? b = some o → h'.get? b = some o) (hg : AllBare g') :
    Inv (gnx X s H (genEnv scope (cloFrom X.env.cells scope.names []) s.heap.objs.size code builtinsNs X.env) fp B) [] (wipe σ (own.map (·.2))) H { s with heap := h', gens := g', toks := tk } := by
  have hfree : ∀ y ∈ scope.names, y.2 = .free → ∃ c, X.env.cells.lookup y.1 = some c := fun y hy e => by
    rcases ok.free y hy e with k | k
    · exact I.ok.has _ (.inl k)
    · exact I.ok.has _ (.inr k)
  have cm : ∀ {y c}, (cloFrom X.env.cells scope.names []).lookup y = some c → X.env.cells.lookup y = some c ∧ c < s.heap.objs.size := fun {y c} hm => by
    have q := clo_cm hfree hm
    obtain ⟨w, z⟩ := I.cell _ _ q
    exact ⟨q, z.lt⟩
  have kd : ∀ {y k}, scope.names.lookup y = some k → k = .local ∨ k = .cell ∨ k = .free → y ∈ own.map (·.1) ∨ y ∉ X.N ∨ k = .free := fun {y k} e hk => by
    have hy := PySem.mem_of_lookup e
    rcases hk with rfl | rfl | rfl
    · exact (ok.own _ hy (.inl rfl)).elim .inl fun z => .inr (.inl z)
    · exact absurd rfl (nc _ hy)
    · exact .inr (.inr rfl)
  have okG : (gnx X s H (genEnv scope (cloFrom X.env.cells scope.names []) s.heap.objs.size code builtinsNs X.env) fp B).Ok := by
    refine ⟨I.ok.mod, ok.kind, I.ok.glob, rfl, Nat.le_refl _, fun y z c e1 e2 => I.ok.inj y z c (cm e1).1 (cm e2).1, fun y hy => ?_, fun y c z e => ?_, fun _ => hB, Around.frames_deeper hfr, .inr ⟨rfl, rfl⟩, fun b hb => ⟨Nat.ne_of_lt (hfp b hb).2, fun y c e z => (hfp b hb).1.2.2.2.2.1 y c (cm e).1 z⟩,
      I.bs, Nat.le_trans I.ok.bsz I.sz, fun b o e hb => ?_, fun b hb z => ?_, I.stack, I.stkFree⟩
    · have hy : scope.names.lookup y = some .cell ∨ scope.names.lookup y = some .free := hy
      rcases hy with hy | hy
      · exact absurd rfl (nc _ (PySem.mem_of_lookup hy))
      · obtain ⟨c, hc⟩ := hfree _ (PySem.mem_of_lookup hy) rfl
        exact ⟨c, clo_has hfree (PySem.mem_of_lookup hy) hc⟩
    · have z : false = true := z
      cases z
    · rcases (hfp b hb).1.2.2.2.1 with z | z
      · exact I.ok.noex b o e z
      · exact absurd (Nat.lt_of_lt_of_le (Heap.lt_size e) (Nat.le_trans I.ok.bsz z)) (Nat.lt_irrefl _)
    · rcases List.mem_cons.mp (I.stkSub b z) with z | z
      · exact (hfp b hb).1.2.1 z
      · exact (hfp b hb).1.2.2.1 z
  refine ⟨okG, rfl, hg, Un.kept kp, ⟨m, hns, fun i y av e1 e2 e3 => ?_⟩, fun y c e => ?_, I.hok.fresh (Nat.le_refl _), fun y c e => I.freeC y c (cm e).1, fun p hp => absurd (show p ∈ ([] : List (Addr × Obj)) ++ [] from hp) (by simp), I.hok.kept kp, by rw [wipe_length]; exact I.len⟩
  · obtain ⟨e2, hne⟩ := wipe_some e2
    have hyN : y ∈ X.N := List.mem_of_getElem? e1
    have hf : scope.names.lookup y = some .free := by
      have key : ∀ k, scope.names.lookup y = some k → k = .local ∨ k = .cell ∨ k = .free → scope.names.lookup y = some .free := fun k hk hk' => by
        rcases kd hk hk' with z | z | z
        · obtain ⟨p, hp, hpy⟩ := List.mem_map.mp z
          have e3 := ok.ix p hp
          have hpy : p.1 = y := hpy
          rw [hpy] at e3
          exact absurd (List.mem_map.mpr ⟨p, hp, nodup_ix hN e3 e1⟩) hne
        · exact absurd hyN z
        · rw [← z]; exact hk
      have e3 : Vis scope y := e3
      rcases e3 with e3 | e3 | e3
      · exact key _ e3 (.inl rfl)
      · exact key _ e3 (.inr (.inl rfl))
      · exact e3
    obtain ⟨mX, hn, hl⟩ := I.loc
    have hvis : Vis X.env.scope y := (ok.free _ (PySem.mem_of_lookup hf) rfl).elim (fun k => .inr (.inl k)) (fun k => .inr (.inr k))
    obtain ⟨w, r, q⟩ := hl i y av e1 e2 hvis
    refine ⟨w, r, .inr ⟨.inr hf, ?_⟩⟩
    rcases q with ⟨k, _⟩ | ⟨_, c', e', z⟩
    · have k : X.env.scope.names.lookup y = some .local := k
      rcases ok.free _ (PySem.mem_of_lookup hf) rfl with k' | k' <;> rw [show X.env.scope.names.lookup y = _ from k'] at k <;> cases k
    · exact ⟨c', clo_has hfree (PySem.mem_of_lookup hf) e', z.keeps kp⟩
  · obtain ⟨w, z⟩ := I.cell y c (cm e).1
    exact ⟨w, z.keeps kp⟩

/-- any, all of what te gives of tg in wi; neg: what it is where all give that -/
def tAG (neg : Bool) (P : Addr) (wi : TI) (g : TG) (tt : TT) (te : TE) (vs : List Nat) : TE := fun σ H Q => wi σ H fun J H1 => TabG H1 P ∧ ∀ H2, Tabbed P H1 H2 → ∃ W : Nat → Nat → Hp → Prop, (∃ m, W 0 m H2) ∧ ∀ i m H, W i m H →
  (J.stop i H ∧ Q (.bl neg) H) ∨ (J.go i H ∧ ∃ Nx : Hp → Prop, (∀ H', Nx H' → ∃ m', m' < m ∧ W (i + 1) m' H') ∧ ∀ x H', J.yld i H x H' → g x (wipe σ vs) H' fun σ2 H2 => wipe σ2 vs = wipe σ vs ∧ tt σ2 H2 fun b H3 =>
    if b = true then te σ2 H3 fun y H4 => ∃ c, y = .bl c ∧ if c = neg then Nx H4 else Q (.bl c) H4 else Nx H3)

/-- what the generator's end tells -/
def GFin (Y : Cx) (pins : List (Addr × Obj)) (σ : L2.St) (neg : Bool) (Q : VK) : GenEnd := fun n s₀ r s1 => ((r = .ok (.ret .none) ∨ r = .ok .next) ∧ (fun (_ : Nat) (_ s1 : Shared) => ∃ H', Inv Y pins σ H' s1 ∧ Q (.bl neg) H') n s₀ s1) ∨ ∃ e, r = .error e ∧ (fun (_ : Value) (_ : Shared) => False) e s1
/-- asleep: the heap as it was -/
def Asl (s s' : Shared) : Prop := s'.heap = s.heap ∧ s'.os = s.os ∧ AllBare s'.gens
def GYld (Y : Cx) (pins : List (Addr × Obj)) (σ : L2.St) (neg : Bool) (Q : VK) : Protocol := fun n _ v s1 kap => ∃ c H' σ1, v = .bool c ∧ Inv Y pins σ1 H' s1 ∧ (if c = neg then ∀ s', Asl s1 s' → kap (.send .none) s' else Q (.bl c) H')
theorem Inv.asl {Y : Cx} {pins : List (Addr × Obj)} {σ : L2.St} {H : Hp} {s s' : Shared} (I : Inv Y pins σ H s) (a : Asl s s') : Inv Y pins σ H s' :=
  I.call' (ch := []) a.2.1 (by rw [a.1]; exact Un.refl) (by rw [a.1]; exact I.hok) a.2.2 fun b hb => absurd hb (by simp)

variable {B : Around} {cenv : PySem.Env} {fp : List Addr} {go : Obj} {a it : Addr} {neg : Bool} {Q : VK} {W : Nat → Nat → Hp → Prop} {J : It} {tn : Nat → Heap → Prop} {tg elt iter : Expr} {ifs : List Expr} {scope : Scope} {pos : Pos} {g : TG} {tt : TT} {te : TE} {vs : List Nat}
theorem seg_gen (hc : X.calm = true) (hco : cenv.scope.isCoroutine = false) (T : Turn X.prog X.w X.K tg J fp it tn) (haf : a ∉ fp)
    (pg : PG (gnx X s H cenv fp B) tg g) (pt : PTs (gnx X s H cenv fp B) ifs tt) (pe : PE (gnx X s H cenv fp B) elt te)
    (turn : ∀ i m H, W i m H → (J.stop i H ∧ Q (.bl neg) H) ∨ (J.go i H ∧ ∃ Nx : Hp → Prop, (∀ H', Nx H' → ∃ m', m' < m ∧ W (i + 1) m' H') ∧ ∀ x H', J.yld i H x H' → g x (wipe σ vs) H' fun σ2 H2 => wipe σ2 vs = wipe σ vs ∧ tt σ2 H2 fun b H3 =>
      if b = true then te σ2 H3 fun y H4 => ∃ c, y = .bl c ∧ if c = neg then Nx H4 else Q (.bl c) H4 else Nx H3)) :
    ∀ (M m n i : Nat) (H5 : Hp) (s0 s5 : Shared), m < M → m < n → Inv (gnx X s H cenv fp B) [(a, go)] (wipe σ vs) H5 s5 → tn i s5.heap → (∀ b ∈ fp, H5 b = none) → W i m H5 →
      Seg (model X.prog X.w) B (GFin (gnx X s H cenv fp B) [(a, go)] (wipe σ vs) neg Q) (GYld (gnx X s H cenv fp B) [(a, go)] (wipe σ vs) neg Q) n s0 (.compLoop (.GeneratorExp elt [⟨tg, iter, ifs, 0⟩] scope pos) 0 (.ref it) .none cenv)
        ((model X.prog X.w).den (.compLoop (.GeneratorExp elt [⟨tg, iter, ifs, 0⟩] scope pos) 0 (.ref it) .none cenv)) [] s5 := by
  have stat : ∀ {σ' : L2.St} {H' : Hp} {s' : Shared}, Inv (gnx X s H cenv fp B) [(a, go)] σ' H' s' → (∀ b ∈ fp, H' b = none) → ∀ b ∈ fp, FpOk (gnx X s H cenv fp B) [(a, go)] H' b := fun {σ' H' s'} I' hn b hb =>
    ⟨hn b hb, (I'.ok.exf b hb).1, I'.ok.exfs b hb, .inl hb, fun x c e => (I'.ok.exf b hb).2 x c e, fun p hp z => by
      have hp : p ∈ ([] : List (Addr × Obj)) ++ [(a, go)] := hp
      rw [List.nil_append] at hp
      rw [List.mem_singleton.mp hp] at z
      exact haf (by have z : a = b := z; rw [z]; exact hb)⟩
  intro M
  induction M with
  | zero => intro m n i H5 s0 s5 hM; exact absurd hM (Nat.not_lt_zero _)
  | succ M ih =>
    intro m n i H5 s0 s5 hM hn I5 st5 n5 w5
    show Seg _ B _ _ n s0 _ ((compTurn (.GeneratorExp elt [⟨tg, iter, ifs, 0⟩] scope pos) 0 (.ref it) .none cenv).onRaise (leaving cenv)) [] s5
    rw [compTurn_gen, Sem.onRaise_eq_wrap]
    refine seg_bind_wrap (wpAny_standAt ?_)
    refine seg_bind_wrap ?_
    rw [over_genL]
    rcases turn i m H5 w5 with ⟨stop, qq⟩ | ⟨go', Nx, hNx, step⟩
    · refine thn (T.done (gnx X s H cenv fp B) rfl rfl rfl hc i _ s5 _ H5 _ I5 (stat I5 n5) st5 stop) fun r s6 ⟨hr, I6⟩ => ?_
      subst hr
      exact seg_end (.ok .next) (.inl ⟨.inr rfl, H5, I6, qq⟩)
    · refine thn (T.item (gnx X s H cenv fp B) rfl rfl rfl hc i _ s5 _ H5 _ I5 (stat I5 n5) st5 go') fun r s6 ⟨u, hr, h6⟩ => ?_
      subst hr
      refine seg_bind_wrap ?_
      rw [over_genL]
      refine wpAny_mono h6 (fun _ s7 ⟨x, H7, I7, r7, y7, st7, n7⟩ => ?_) fun _ _ z => z
      have I7' := I7.pinned (stat I7 n7) (T.obj _ _ st7)
      refine seg_bind_wrap ?_
      rw [over_genL]
      refine thnF (pg.run _ s7 _ H7 x u _ I7' r7 (step x H7 y7)) fun _ s8 ⟨σ8, H8, I8, hw8, q8⟩ => ?_
      refine seg_bind_wrap ?_
      rw [over_genL]
      refine thnF (pt.run _ s8 σ8 H8 _ I8 q8) fun b s9 ⟨H9, I9, q9⟩ => ?_
      have fin : ∀ {s' : Shared} {H' : Hp}, Inv (gnx X s H cenv fp B) ([(a, go)] ++ pinsAt fp s7.heap) σ8 H' s' → Inv (gnx X s H cenv fp B) [(a, go)] (wipe σ vs) H' s' ∧ tn (i + 1) s'.heap ∧ (∀ b ∈ fp, H' b = none) := fun {s' H'} I' => by
        have pin' : ∀ b ∈ fp, ∀ o, s7.heap.get? b = some o → s'.heap.get? b = some o ∧ H' b = none := fun b hb o e =>
          let z := I'.pin (b, o) (List.mem_append_right _ (List.mem_append_right _ (mem_pinsAt hb e)))
          ⟨z.1, z.2.1⟩
        have hl : (wipe σ vs).length = σ8.length := by rw [← hw8, wipe_length]
        refine ⟨I'.unpinned.weak hl (fun j v e => ?_), T.keep _ _ _ st7 fun b hb o e => (pin' b hb o e).1, fun b hb => ?_⟩
        · rw [← hw8] at e
          exact (wipe_some e).1
        · obtain ⟨o, e, _⟩ := T.obj _ _ st7 b hb
          exact (pin' b hb o e).2
      cases b with
      | false =>
        simp only [Bool.false_eq_true, if_false] at q9 ⊢
        obtain ⟨J9, st9, n9⟩ := fin I9
        obtain ⟨m', hm', w'⟩ := hNx _ q9
        exact seg_again rfl (ih m' n (i + 1) H9 s0 s9 (by omega) (by omega) J9 st9 n9 w')
      | true =>
        simp only [if_true] at q9 ⊢
        have hy : ∀ v, yieldOut cenv v = yieldValue v := fun v => by simp only [yieldOut, hco, Bool.false_eq_true, if_false]
        simp only [hy]
        rw [Sem.bind_eq_wrap', Sem.bind_eq_wrap', Sem.wrap_wrap, Sem.wrap_wrap]
        refine seg_wrap ?_
        rw [over_genL]
        refine thnF (pe.run _ s9 σ8 H9 _ I9 q9) fun z s10 ⟨yv, H10, I10, r10, c, ey, q10⟩ => ?_
        subst ey
        cases r10
        obtain ⟨J10, st10, n10⟩ := fin I10
        obtain ⟨n', rfl⟩ : ∃ n', n = n' + 1 := ⟨n - 1, by omega⟩
        refine seg_at (seg_yield rfl rfl rfl ⟨c, H10, _, rfl, J10, ?_⟩)
        by_cases hcn : c = neg
        · rw [if_pos hcn] at q10 ⊢
          intro s' ha
          obtain ⟨m', hm', w'⟩ := hNx _ q10
          refine seg_again rfl (ih m' n' (i + 1) H10 s' s' (by omega) (by omega) (Inv.asl J10 ha) ?_ n10 w')
          rw [ha.1]
          exact st10
        · rw [if_neg hcn] at q10 ⊢
          exact q10
theorem seg_genS {M : Nat} {R : GenEnd} {Y : Protocol} {s0 s5 : Shared} {i : Nat} (T : Turn X.prog X.w X.K tg J fp it tn) (st5 : tn i s5.heap)
    (loop : Seg (model X.prog X.w) B R Y M s0 (.compLoop (.GeneratorExp elt [⟨tg, iter, ifs, 0⟩] scope pos) 0 (.ref it) .none cenv) ((model X.prog X.w).den (.compLoop (.GeneratorExp elt [⟨tg, iter, ifs, 0⟩] scope pos) 0 (.ref it) .none cenv)) [] s5) :
    Seg (model X.prog X.w) B R Y M s0 (.compStart (.GeneratorExp elt [⟨tg, iter, ifs, 0⟩] scope pos) 0 (.ref it) .none cenv) ((model X.prog X.w).den (.compStart (.GeneratorExp elt [⟨tg, iter, ifs, 0⟩] scope pos) 0 (.ref it) .none cenv)) [] s5 := by
  show Seg _ B _ _ _ s0 _ ((compStart (.GeneratorExp elt [⟨tg, iter, ifs, 0⟩] scope pos) 0 (.ref it) .none cenv).onRaise (leaving cenv)) [] s5
  unfold compStart
  rw [Sem.onRaise_eq_wrap]
  show Seg _ B _ _ _ s0 _ ((ask >>= _).wrap _ _ _ _) [] s5
  refine seg_bind_wrap (wpAny_askSetting ?_)
  split
  · exact seg_again rfl loop
  · first
      | exact seg_bind_wrap (wpAny_rule (seg_bind_wrap (wpAny_standAt (seg_bind_wrap (T.self _ i s5 _ _ st5 (seg_again rfl loop))))))
      | (refine seg_bind_wrap (wpAny_rule ?_); show Seg _ B _ _ _ s0 _ ((standAt iter.pos >>= _).wrap _ _ _ _) [] s5; exact seg_bind_wrap (wpAny_standAt (seg_bind_wrap (T.self _ i s5 _ _ st5 (seg_again rfl loop)))))

/-! ### the loops of any, all -/
section
variable {P : Program} {w : World} {A : Around} {R : Result → Shared → Prop} {Y : Cx} {gn : Nat} {σw : L2.St}
theorem gen_next {σ0 : L2.St} {Q' : Option Value → Shared → Prop} {E : Value → Shared → Prop} {m : Nat} {s : Shared} {gs : GenState} {H0 : Hp} (hh : A.handled = none) (hd : A.depth < recursionLimit) (hp : Y.prog = P) (hw : Y.w = w) (hgo : ∀ h : Heap, h.get? a = some go → h.IsGen a gn)
    (I : Inv Y [(a, go)] σ0 H0 s) (hgs : s.gens[gn]? = some gs) (hg : gs.Goes (model P w) A.in1 (GFin Y [(a, go)] σw neg Q) (GYld Y [(a, go)] σw neg Q) m (.send .none) (s.setGen gn .running))
    (hN : ∀ s' H', Inv Y [(a, go)] σw H' s' → Q (.bl neg) H' → Q' none s')
    (hS : ∀ c s' H' σ1, c ≠ neg → Inv Y [(a, go)] σ1 H' s' → Q (.bl c) H' → Q' (some (.bool c)) s')
    (hC : ∀ n s' gs' H' σ1, m = n + 1 → s'.gens[gn]? = some gs' → Inv Y [(a, go)] σ1 H' s' → gs'.Goes (model P w) A.in1 (GFin Y [(a, go)] σw neg Q) (GYld Y [(a, go)] σw neg Q) n (.send .none) (s'.setGen gn .running) → Q' (some (.bool neg)) s') :
    wpAny (model P w) A (pyNext (.ref a)) Q' E s := by
  subst hp
  subst hw
  have hgl : gn < s.gens.size := (Array.getElem?_eq_some_iff.mp hgs).1
  have hga : s.heap.get? a = some go := (I.pin (a, go) (List.mem_append_right _ (List.mem_singleton.mpr rfl))).1
  refine wpAny_gsz (n := gn + 1) hgl (next_genG (Er := fun _ _ => False) (F := fun (_ : Nat) (_ s1 : Shared) => ∃ H', Inv Y [(a, go)] σw H' s1 ∧ Q (.bl neg) H') (Y := GYld Y [(a, go)] σw neg Q) hh I.nolimit hd (hgo _ hga) hgs hg (fun v s₁ gs' hb hv => ?_) (fun s₁ hp h' hk => ?_) fun e s₁ he => he.elim)
  · intro hsz
    obtain ⟨c, H', σ1, rfl, J1, h3⟩ := hv
    have J2 : Inv Y [(a, go)] σ1 H' (s₁.setGen gn gs') := Inv.asl J1 ⟨rfl, rfl, allBare_setGen J1.bare hb⟩
    by_cases hcn : c = neg
    · subst hcn
      rw [if_pos rfl] at h3
      cases m with
      | zero => exact False.elim (h3 s₁ ⟨rfl, rfl, J1.bare⟩)
      | succ n =>
        have hsz1 : gn < s₁.gens.size := by
          have q : (s₁.setGen gn gs').gens.size = s₁.gens.size := setGen_size _ _ _
          have hsz' : gn + 1 ≤ (s₁.setGen gn gs').gens.size := hsz
          omega
        exact hC n _ gs' H' σ1 rfl (setGen_at hsz1) J2 (h3 ((s₁.setGen gn gs').setGen gn .running) ⟨rfl, rfl, allBare_setGen J2.bare rfl⟩)
    · rw [if_neg hcn] at h3
      exact hS c _ H' σ1 hcn J2 h3
  · intro _
    obtain ⟨H', J1, q⟩ := hp
    refine hN _ H' ?_ q
    have J2 : Inv Y [(a, go)] σw H' (s₁.setGen gn .finished) := Inv.asl J1 ⟨rfl, rfl, allBare_setGen J1.bare rfl⟩
    exact J2.kept (t' := s₁.toks) hk
theorem any_loop (hh : A.handled = none) (hd : A.depth < recursionLimit) (hp : Y.prog = P) (hw : Y.w = w) (hgo : ∀ h : Heap, h.get? a = some go → h.IsGen a gn)
    (hend : ∀ c s' H' σ1, Inv Y [(a, go)] σ1 H' s' → Q (.bl c) H' → R (.ok (.ret (.bool c))) s') : ∀ (m : Nat) (s : Shared) (gs : GenState) (H0 : Hp) (σ0 : L2.St), Inv Y [(a, go)] σ0 H0 s → s.gens[gn]? = some gs →
      gs.Goes (model P w) A.in1.in1 (GFin Y [(a, go)] σw false Q) (GYld Y [(a, go)] σw false Q) m (.send .none) (s.setGen gn .running) → codeAny (model P w) A (.builtin "any.loop" ⟨[.ref a], []⟩) R s := by
  intro m
  induction m using Nat.strongRecOn with
  | ind m ih =>
    intro s gs H0 σ0 I hgs hg
    refine codeAny_builtin F.entry_any_loop ?_
    rw [Around.under_plainId F.plain_any_loop _]
    show wpAny _ A.in1 (pyNext (.ref a) >>= _) _ _ s
    refine wpAny_bind (gen_next (A := A.in1) hh hd hp hw hgo I hgs hg (fun s' H' I' q => ?_) (fun c s' H' σ1 hc I' q => ?_) fun n s' gs' H' σ1 hm hgs' I' hg' => ?_)
    · refine wpAny_bind (wpAny_rule (wpAny_pure ?_))
      exact hend false s' H' _ I' q
    · have hc : c = true := by cases c <;> first | rfl | exact absurd rfl hc
      subst hc
      refine wpAny_bind (wpAny_holding (wpAny_truthy_bool ?_))
      refine wpAny_bind (wpAny_letGo ?_)
      simp only [if_true, Bool.false_eq_true, if_false]
      refine wpAny_bind (wpAny_rule (wpAny_pure ?_))
      exact hend true s' H' _ I' q
    · refine wpAny_bind (wpAny_holding (wpAny_truthy_bool ?_))
      refine wpAny_bind (wpAny_letGo ?_)
      simp only [if_true, Bool.false_eq_true, if_false]
      exact wpAny_pure ⟨plainId_quiet F.plain_any_loop _, ih n (by omega) s' gs' H' σ1 I' hgs' hg'⟩
theorem all_loop (hh : A.handled = none) (hd : A.depth < recursionLimit) (hp : Y.prog = P) (hw : Y.w = w) (hgo : ∀ h : Heap, h.get? a = some go → h.IsGen a gn)
    (hend : ∀ c s' H' σ1, Inv Y [(a, go)] σ1 H' s' → Q (.bl c) H' → R (.ok (.ret (.bool c))) s') : ∀ (m : Nat) (s : Shared) (gs : GenState) (H0 : Hp) (σ0 : L2.St), Inv Y [(a, go)] σ0 H0 s → s.gens[gn]? = some gs →
      gs.Goes (model P w) A.in1.in1 (GFin Y [(a, go)] σw true Q) (GYld Y [(a, go)] σw true Q) m (.send .none) (s.setGen gn .running) → codeAny (model P w) A (.builtin "all.loop" ⟨[.ref a], []⟩) R s := by
  intro m
  induction m using Nat.strongRecOn with
  | ind m ih =>
    intro s gs H0 σ0 I hgs hg
    refine codeAny_builtin F.entry_all_loop ?_
    rw [Around.under_plainId F.plain_all_loop _]
    show wpAny _ A.in1 (pyNext (.ref a) >>= _) _ _ s
    refine wpAny_bind (gen_next (A := A.in1) hh hd hp hw hgo I hgs hg (fun s' H' I' q => ?_) (fun c s' H' σ1 hc I' q => ?_) fun n s' gs' H' σ1 hm hgs' I' hg' => ?_)
    · refine wpAny_bind (wpAny_rule (wpAny_pure ?_))
      exact hend true s' H' _ I' q
    · have hc : c = false := by cases c <;> first | rfl | exact absurd rfl hc
      subst hc
      refine wpAny_bind (wpAny_holding (wpAny_truthy_bool ?_))
      refine wpAny_bind (wpAny_letGo ?_)
      simp only [if_true, Bool.false_eq_true, if_false]
      refine wpAny_bind (wpAny_rule (wpAny_pure ?_))
      exact hend false s' H' _ I' q
    · refine wpAny_bind (wpAny_holding (wpAny_truthy_bool ?_))
      refine wpAny_bind (wpAny_letGo ?_)
      simp only [if_true, Bool.false_eq_true, if_false]
      exact wpAny_pure ⟨plainId_quiet F.plain_all_loop _, ih n (by omega) s' gs' H' σ1 I' hgs' hg'⟩
end
/-- a generator that has not begun -/
def GReady (X : Cx) (pins : List (Addr × Obj)) (σ : L2.St) (neg : Bool) (Q : VK) (a : Addr) (s5 : Shared) : Prop :=
  ∃ (Y : Cx) (go : Obj) (gn : Nat) (σw σ0 : L2.St) (gs : GenState) (H0 : Hp) (m : Nat), Y.prog = X.prog ∧ Y.w = X.w ∧ (∀ h : Heap, h.get? a = some go → h.IsGen a gn) ∧ Inv Y [(a, go)] σ0 H0 s5 ∧ s5.gens[gn]? = some gs ∧
    gs.Goes (model X.prog X.w) X.A.in1.in1 (GFin Y [(a, go)] σw neg Q) (GYld Y [(a, go)] σw neg Q) m (.send .none) (s5.setGen gn .running) ∧ ∀ H' σ1 s', Inv Y [(a, go)] σ1 H' s' → Inv X pins σ H' s'
theorem gen_make {c P : Addr} {own : List (Str × Nat)} {gpos : Pos} {wi : TI} {Q' : Value → Shared → Prop} (hc : X.calm = true) (hd : X.A.depth < recursionLimit) (hN : X.N.Nodup) (TB : TabB X.base X.mg c P) (hcode : X.env.code = .ref c) (ok : BlkOk X.N X.env.scope scope own)
    (co : scope.isCoroutine = false) (nc : ∀ y ∈ scope.names, y.2 ≠ .cell) (dot : scope.names.lookup (".0" : Str) = some NameKind.local) (hi : PI X tg iter wi)
    (hg : ∀ (s : Shared) (H : Hp) (C : Addr) (cl : List (Str × Addr)) (code : Value) (fp : List Addr), PG (gnx X s H (genEnv scope cl C code builtinsNs X.env) fp X.A.in1.in1) tg g)
    (ht : ∀ (s : Shared) (H : Hp) (C : Addr) (cl : List (Str × Addr)) (code : Value) (fp : List Addr), PTs (gnx X s H (genEnv scope cl C code builtinsNs X.env) fp X.A.in1.in1) ifs tt)
    (he : ∀ (s : Shared) (H : Hp) (C : Addr) (cl : List (Str × Addr)) (code : Value) (fp : List Addr), PE (gnx X s H (genEnv scope cl C code builtinsNs X.env) fp X.A.in1.in1) elt te)
    (hs : ∀ v, genFold iter X.env v = pure v) (I : Inv X pins σ H s) (h : tAG neg P wi g tt te (own.map (·.2)) σ H Q)
    (hQ : ∀ a s5, GReady X pins σ neg Q a s5 → Q' (.ref a) s5) :
    wpAny (model X.prog X.w) X.A (eval (.GeneratorExp elt [⟨tg, iter, ifs, 0⟩] scope gpos) X.env) Q' X.xe s := by
  have hfree : ∀ y ∈ scope.names, y.2 = .free → ∃ c, X.env.cells.lookup y.1 = some c := fun y hy e => by
    rcases ok.free y hy e with k | k
    · exact I.ok.has _ (.inl k)
    · exact I.ok.has _ (.inr k)
  refine wpAny_GeneratorExp_make co (closure_ok hfree) nc dot ok.kind hd ?_ hs
  refine thn (hi.run pins s σ H _ I h) fun xv s1 h1 => thn h1 fun itv s2 h2 => ?_
  obtain ⟨it, fp, tn, J, H2, e, I2, T, st2, f2, ⟨ps, hP, htr⟩, q⟩ := h2
  subst e
  refine ⟨I2.nolimit, ?_⟩
  have hPs : s2.heap.get? P = some { cls := .none, data := .fields ps } := I2.hok P _ hP
  have cd : PySem.W.CodeHd s2.heap c P := TB.code.keeps I2.bk
  have cont : ∀ (code : Value) (h3 : Heap) (tk : Nat) (ps' : Array Value), (∀ b u, b ≠ P → s2.heap.get? b = some u → h3.get? b = some u) → s2.heap.objs.size ≤ h3.objs.size → h3.get? P = some { cls := .none, data := .fields ps' } → (∃ more, ps' = ps ++ more) → TriplesOk ps'.toList →
      wpAny (model X.prog X.w) X.A (builtinsFor X.env.globals X.env.builtins) (fun bi s₄ =>
        ∀ h', h'.Ns s₄.heap.objs.size (fun y => if y = ".0" then some (.ref it) else none) → Heap.SameBut s₄.heap.objs.size (s₄.heap.push { cls := .type "frame", data := .dict #[] }) h' →
          Q' (.ref h'.objs.size) { s₄ with
            gens := s₄.gens.push (.fresh (.compStart (.GeneratorExp elt [⟨tg, iter, ifs, 0⟩] scope gpos) 0 (.ref it) .none (genEnv scope (cloFrom X.env.cells scope.names []) s₄.heap.objs.size code bi X.env))),
            toks := s₄.toks + 1 + 1 + 1,
            heap := h'.push { cls := .type "generator", data := .fields #[.int s₄.gens.size 0, .str "<genexpr>" (s₄.toks + 1), .str (X.env.qual ++ "<genexpr>") (s₄.toks + 1 + 1)] } }) X.xe { s2 with heap := h3, toks := tk } := by
    intro code h3 tk ps' keep3 hsz hP3 hmore ht3
    obtain ⟨more, em⟩ := hmore
    have I3 : Inv X pins σ (upd H2 P (.tbl (ps ++ more))) { s2 with heap := h3, toks := tk } :=
      inv_tab (more := more) (h' := h3) (g' := s2.gens) (d' := s2.drawn) (t' := tk) I2 hP keep3 (by rw [← em]; exact hP3) I2.bare
    have tbd : Tabbed P H2 (upd H2 P (.tbl (ps ++ more))) := ⟨⟨ps ++ more, upd_same, by rw [← em]; exact ht3⟩, fun b hb => upd_ne hb⟩
    obtain ⟨W, ⟨m0, w0⟩, turn⟩ := q _ tbd
    obtain ⟨bm, ob, e1, e2, e3, e4, e5, e6, e7, e8⟩ := TB.bm
    refine wpAny_builtinsFor (m := X.mg) (by rw [I2.ok.glob]; exact I2.mod.glob.keeps I3.bk) e1 e2 (I3.bk _ _ e5) e6 e7 e8 ?_
    generalize hs3 : ({ s2 with heap := h3, toks := tk } : Shared) = s3 at I3 ⊢
    have h3e : s3.heap = h3 := by rw [← hs3]
    have nP : ∀ b ∈ fp, b ≠ P := fun b hb z => by
      have := (f2 b hb).1
      rw [z, hP] at this
      cases this
    have st3 : tn 0 s3.heap := T.keep _ _ _ st2 fun b hb o e => by rw [h3e]; exact keep3 b o (nP b hb) e
    have f3 : ∀ b ∈ fp, FpOk X pins (upd H2 P (.tbl (ps ++ more))) b ∧ b < s3.heap.objs.size := fun b hb => by
      obtain ⟨o, e, _⟩ := T.obj _ _ st3 b hb
      exact ⟨⟨by rw [upd_ne (nP b hb)]; exact (f2 b hb).1, (f2 b hb).2⟩, Heap.lt_size e⟩
    generalize hH3 : upd H2 P (.tbl (ps ++ more)) = H3 at I3 f3 w0
    intro h' hns hsb
    have hsz' : h'.objs.size = s3.heap.objs.size + 1 := by rw [hsb.1, Heap.size_push]
    have keep' : ∀ b o, s3.heap.get? b = some o → h'.get? b = some o := fun b o e => hsb.extBut b o (Nat.ne_of_lt (Heap.lt_size e)) (Heap.get?_push_of_some _ e)
    refine hQ _ _ ?_
    generalize hgo : ({ cls := .type "generator", data := .fields #[.int s3.gens.size 0, .str "<genexpr>" (s3.toks + 1), .str (X.env.qual ++ "<genexpr>") (s3.toks + 1 + 1)] } : Obj) = go
    have hgd : ∃ nm qn, go.cls = .type "generator" ∧ go.data = .fields #[.int s3.gens.size 0, nm, qn] ∧ go.slots = #[] := by rw [← hgo]; exact ⟨_, _, rfl, rfl, rfl⟩
    obtain ⟨nm, qn, gc, gd, gsl⟩ := hgd
    have hpush : (h'.push go).get? h'.objs.size = some go := by rw [← hgo]; exact Heap.get?_push_size _ rfl
    have hB : X.A.in1.in1.handled = none := I.ok.hd hc
    have hfr : X.A.in1.in1.frames = some X.stack := I.ok.frames
    have kp5 : ∀ b o, s3.heap.get? b = some o → (h'.push go).get? b = some o := fun b o e => Heap.get?_push_of_some _ (keep' b o e)
    have I5 := inv_gen (code := code) (B := X.A.in1.in1) (m := fun y => if y = ".0" then some (.ref it) else none) (g' := s3.gens.push (.fresh (.compStart (.GeneratorExp elt [⟨tg, iter, ifs, 0⟩] scope gpos) 0 (.ref it) .none (genEnv scope (cloFrom X.env.cells scope.names []) s3.heap.objs.size code builtinsNs X.env))))
      (tk := s3.toks + 1 + 1 + 1) I3 ok nc hN f3 hB hfr (hns.push _) kp5 (AllBare.push I3.bare rfl)
    have ga : s3.heap.objs.size ≤ h'.objs.size := by omega
    have I6 := I5.pins_of (pins' := [(h'.objs.size, go)]) fun p hp => by
      rw [List.mem_singleton.mp hp]
      refine ⟨hpush, I3.hok.fresh ga, ?_, ?_, fun v z => by rw [gd] at z; cases z⟩
      · show h'.objs.size ≠ s3.heap.objs.size
        omega
      · intro z
        rcases List.mem_cons.mp (I3.stkSub _ z) with z | z
        · have := I3.lt
          rw [← z] at this
          exact absurd (Nat.lt_of_lt_of_le this ga) (Nat.lt_irrefl _)
        · exact I3.nofs ga z
    have st5 : tn 0 (h'.push go) := T.keep _ _ _ st3 fun b _ o e => kp5 b o e
    refine ⟨gnx X s3 H3 (genEnv scope (cloFrom X.env.cells scope.names []) s3.heap.objs.size code builtinsNs X.env) fp X.A.in1.in1, go, s3.gens.size, wipe σ (own.map (·.2)), _, _, H3, m0 + 1, rfl, rfl, fun h e => ⟨go, nm, qn, e, gc, gd, gsl⟩, I6, Array.getElem?_push_size .., ⟨rfl, ?_⟩, fun H' σ1 s' J' => ?_⟩
    · refine seg_genS (tn := tn) (i := 0) T st5 ?_
      refine seg_gen hc co T (fun hm => ?_) (hg ..) (ht ..) (he ..) turn (m0 + 1) m0 (m0 + 1) 0 H3 _ _ (Nat.lt_succ_self _) (Nat.lt_succ_self _) (Inv.asl I6 ⟨rfl, rfl, allBare_setGen I6.bare rfl⟩) st5 (fun b hb => (f3 b hb).1.1) w0
      exact absurd (Nat.lt_of_lt_of_le (f3 _ hm).2 ga) (Nat.lt_irrefl _)
    · exact I3.call' (ch := fp) J'.os J'.base J'.hok J'.bare fun b hb => ⟨(f3 b hb).1.2.2.2.1, (f3 b hb).1.2.1, (f3 b hb).1.2.2.2.2.1, (f3 b hb).1.2.2.2.2.2⟩
  cases hf : codeAmong gpos ps.toList with
  | none =>
    refine wpAny_genexprCodeX hcode (cd.code hPs htr) (cd.tab hPs) hf fun c' h' tk hx hge hlt hco' _ htab' _ => ?_
    obtain ⟨o1, vs, f1, tf, fl, tg, inF, tx, tt, op, _, _, _, _, _, _, _, _, _, htr', _⟩ := hco'
    exact cont _ h' tk _ (fun b u hb e => hx b u hb e) (Nat.le_trans hge (Nat.le_of_lt hlt)) htab'.2 ⟨_, rfl⟩ htr'
  | some cv =>
    refine wpAny_genexprCode_hit hcode (cd.code hPs htr) hf ?_
    exact cont cv s2.heap s2.toks ps (fun _ _ _ e => e) (Nat.le_refl _) hPs ⟨#[], by simp⟩ htr
theorem pe_anyG {c P : Addr} {own : List (Str × Nat)} {p cpos gpos : Pos} {wi : TI} (hc : X.calm = true) (hd : X.A.depth < recursionLimit) (hN : X.N.Nodup) (hgl : Gl X "any") (hm : X.mg "any" = none) (TB : TabB X.base X.mg c P) (hcode : X.env.code = .ref c) (ok : BlkOk X.N X.env.scope scope own)
    (co : scope.isCoroutine = false) (nc : ∀ y ∈ scope.names, y.2 ≠ .cell) (dot : scope.names.lookup (".0" : Str) = some NameKind.local) (hi : PI X tg iter wi)
    (hg : ∀ (s : Shared) (H : Hp) (C : Addr) (cl : List (Str × Addr)) (code : Value) (fp : List Addr), PG (gnx X s H (genEnv scope cl C code builtinsNs X.env) fp X.A.in1.in1) tg g)
    (ht : ∀ (s : Shared) (H : Hp) (C : Addr) (cl : List (Str × Addr)) (code : Value) (fp : List Addr), PTs (gnx X s H (genEnv scope cl C code builtinsNs X.env) fp X.A.in1.in1) ifs tt)
    (he : ∀ (s : Shared) (H : Hp) (C : Addr) (cl : List (Str × Addr)) (code : Value) (fp : List Addr), PE (gnx X s H (genEnv scope cl C code builtinsNs X.env) fp X.A.in1.in1) elt te)
    (hs : ∀ v, genFold iter X.env v = pure v)
    (hst : starEach [.GeneratorExp elt [⟨tg, iter, ifs, 0⟩] scope gpos] X.env = (false, eval (.GeneratorExp elt [⟨tg, iter, ifs, 0⟩] scope gpos) X.env) :: starEach [] X.env := by rfl) :
    PE X (.Call (.Name "any" p) [.GeneratorExp elt [⟨tg, iter, ifs, 0⟩] scope gpos] [] cpos) (tAG false P wi g tt te (own.map (·.2))) := by
  refine ⟨fun pins s σ H Q I h => ?_⟩
  refine wpAny_Call_Name_kw (ld_blt I hgl hm (by decide +kernel : bootBuiltins "any" = some (.builtin "any")) ?_)
  refine PyProof.Rows.callWith_builtin1 ?_ hst (by rfl)
  rw [hst]
  show wpAny _ _ (spliced ((false, eval (.GeneratorExp elt [⟨tg, iter, ifs, 0⟩] scope gpos) X.env) :: backTo cpos (starEach [] X.env))) _ _ s
  refine Calls.spliced_cons (gen_make hc hd hN TB hcode ok co nc dot hi hg ht he hs I h fun a s5 hR => ?_)
  obtain ⟨Y, go, gn, σw, σ0, gs, H0, m, hp, hw, hgo, IY, hgs, hgoes, hback⟩ := hR
  refine Calls.spliced_nil ?_
  have hga : s5.heap.get? a = some go := (IY.pin (a, go) (List.mem_append_right _ (List.mem_singleton.mpr rfl))).1
  refine call_function_tree F.kind_any F.plain_any F.entry_any (F.args_any1 _) ?_
  unfold Builtin.«any»
  refine wpAny_bind (m := oneArg "any" _) (wpAny_pure ?_)
  refine wpAny_bind (wpAny_pyIter_gen (hgo _ hga) ?_)
  refine wpAny_pure ⟨plainId_quiet F.plain_any_loop _, ?_⟩
  refine any_loop (A := X.A) (I.ok.hd hc) hd hp hw hgo (fun c s' H' σ1 J q => ?_) m s5 gs H0 σ0 IY hgs hgoes
  exact ⟨.bl c, H', hback H' σ1 s' J, rfl, q⟩
theorem pe_allG {c P : Addr} {own : List (Str × Nat)} {p cpos gpos : Pos} {wi : TI} (hc : X.calm = true) (hd : X.A.depth < recursionLimit) (hN : X.N.Nodup) (hgl : Gl X "all") (hm : X.mg "all" = none) (TB : TabB X.base X.mg c P) (hcode : X.env.code = .ref c) (ok : BlkOk X.N X.env.scope scope own)
    (co : scope.isCoroutine = false) (nc : ∀ y ∈ scope.names, y.2 ≠ .cell) (dot : scope.names.lookup (".0" : Str) = some NameKind.local) (hi : PI X tg iter wi)
    (hg : ∀ (s : Shared) (H : Hp) (C : Addr) (cl : List (Str × Addr)) (code : Value) (fp : List Addr), PG (gnx X s H (genEnv scope cl C code builtinsNs X.env) fp X.A.in1.in1) tg g)
    (ht : ∀ (s : Shared) (H : Hp) (C : Addr) (cl : List (Str × Addr)) (code : Value) (fp : List Addr), PTs (gnx X s H (genEnv scope cl C code builtinsNs X.env) fp X.A.in1.in1) ifs tt)
    (he : ∀ (s : Shared) (H : Hp) (C : Addr) (cl : List (Str × Addr)) (code : Value) (fp : List Addr), PE (gnx X s H (genEnv scope cl C code builtinsNs X.env) fp X.A.in1.in1) elt te)
    (hs : ∀ v, genFold iter X.env v = pure v)
    (hst : starEach [.GeneratorExp elt [⟨tg, iter, ifs, 0⟩] scope gpos] X.env = (false, eval (.GeneratorExp elt [⟨tg, iter, ifs, 0⟩] scope gpos) X.env) :: starEach [] X.env := by rfl) :
    PE X (.Call (.Name "all" p) [.GeneratorExp elt [⟨tg, iter, ifs, 0⟩] scope gpos] [] cpos) (tAG true P wi g tt te (own.map (·.2))) := by
  refine ⟨fun pins s σ H Q I h => ?_⟩
  refine wpAny_Call_Name_kw (ld_blt I hgl hm (by decide +kernel : bootBuiltins "all" = some (.builtin "all")) ?_)
  refine PyProof.Rows.callWith_builtin1 ?_ hst (by rfl)
  rw [hst]
  show wpAny _ _ (spliced ((false, eval (.GeneratorExp elt [⟨tg, iter, ifs, 0⟩] scope gpos) X.env) :: backTo cpos (starEach [] X.env))) _ _ s
  refine Calls.spliced_cons (gen_make hc hd hN TB hcode ok co nc dot hi hg ht he hs I h fun a s5 hR => ?_)
  obtain ⟨Y, go, gn, σw, σ0, gs, H0, m, hp, hw, hgo, IY, hgs, hgoes, hback⟩ := hR
  refine Calls.spliced_nil ?_
  have hga : s5.heap.get? a = some go := (IY.pin (a, go) (List.mem_append_right _ (List.mem_singleton.mpr rfl))).1
  refine call_function_tree F.kind_all F.plain_all F.entry_all (F.args_all1 _) ?_
  unfold Builtin.«all»
  refine wpAny_bind (m := oneArg "all" _) (wpAny_pure ?_)
  refine wpAny_bind (wpAny_pyIter_gen (hgo _ hga) ?_)
  refine wpAny_pure ⟨plainId_quiet F.plain_all_loop _, ?_⟩
  refine all_loop (A := X.A) (I.ok.hd hc) hd hp hw hgo (fun c s' H' σ1 J q => ?_) m s5 gs H0 σ0 IY hgs hgoes
  exact ⟨.bl c, H', hback H' σ1 s' J, rfl, q⟩
end
end Mi

namespace Mi
open PySem PySem.Spec L2

section
variable {Φ : Tx}
/-- what no checked expression is -/
def odd : Expr → Bool
  | .Starred .. => true
  | .Slice .. => true
  | .Set .. => true
  | .NamedExpr .. => true
  | _ => false
theorem chk_odd {c : C} {x : SX} {e : Expr} (h : chkC Φ c x e = true) : odd e = false := by
  cases e <;> first
    | rfl
    | (exfalso; cases c <;> first | exact Bool.false_ne_true h | (rename_i k; cases k <;> exact Bool.false_ne_true h))
theorem odd_star {e : Expr} (h : odd e = false) (es : List Expr) (env : PySem.Env) : starEach (e :: es) env = (false, eval e env) :: starEach es env := by
  cases e <;> first | rfl | (exfalso; exact Bool.false_ne_true h.symm)
theorem odd_fold {e : Expr} (h : odd e = false) (env : PySem.Env) (v : Value) : foldedSetIterable e env v = pure v := by
  cases e <;> first | rfl | (exfalso; exact Bool.false_ne_true h.symm)
theorem odd_mark {e : Expr} (h : odd e = false) (op : CmpOp) : behindInMarks op e = false := by
  cases e <;> first | rfl | (exfalso; exact Bool.false_ne_true h.symm)
theorem odd_ix {e : Expr} (h : odd e = false) : PlainIx e := by
  intro o i
  cases e <;> first | rfl | (exfalso; exact Bool.false_ne_true h.symm)
theorem noCall_base {e : Expr} (h : noCall e = true) (n : Str) (env : PySem.Env) (wh : Sem Value) : attributeBase e n env wh = wh := by
  cases e <;> first | rfl | (exfalso; exact Bool.false_ne_true h)
/-- .. of all -/
def AllOdd : List Expr → Prop := fun l => ∀ e ∈ l, odd e = false
theorem chks_odd : ∀ {cs : Cs} {x : SX} {l : List Expr}, chkCs Φ cs x l = true → AllOdd l
  | .nil, x, l, h => by
    cases l with
    | nil => exact fun e he => by cases he
    | cons e es => simp [chkCs] at h
  | .cons a r, x, l, h => by
    cases l with
    | nil => simp [chkCs] at h
    | cons e es =>
      simp only [chkCs, Bool.and_eq_true] at h
      intro e' he
      rcases List.mem_cons.mp he with rfl | he
      · exact chk_odd h.1
      · exact chks_odd h.2 e' he
theorem stars_off {l : List Expr} (h : AllOdd l) (pos : Pos) (env : PySem.Env) : (backTo pos (starEach l env)).any (·.1) = false := by
  induction l with
  | nil => rfl
  | cons e es ih =>
    rw [odd_star (h e List.mem_cons_self)]
    show (false || (backTo pos (starEach es env)).any (·.1)) = false
    rw [ih fun e he => h e (List.mem_cons_of_mem _ he)]
    rfl
theorem stars_all {l : List Expr} (h : AllOdd l) (pos : Pos) (env : PySem.Env) : (backTo pos (starEach l env)).all (fun x => !x.1) = true := by
  induction l with
  | nil => rfl
  | cons e es ih =>
    rw [odd_star (h e List.mem_cons_self)]
    show (!false && (backTo pos (starEach es env)).all (fun x => !x.1)) = true
    rw [ih fun e he => h e (List.mem_cons_of_mem _ he)]
    rfl
end

def bnames : List String := ["abs", "max", "min", "int", "len", "sum", "list", "tuple", "sorted", "str", "range", "isinstance", "enumerate", "bool", "dict", "any", "all", "set"]
/-- an own exception class as it stands: it may be made, its fields read -/
structure XOk (P : Program) (w : World) (K : PySem.W.Frag) (mg : Str → Option Value) (base : Heap) (CX : CXT) (c : String) (fs : List String) : Prop where
  ex : ∃ (C fI : Addr) (fd : FuncData), mg (Str.ofString c) = some (.ref C) ∧ OexC K C ∧ PySem.W.findIn K (.ref C) "__init__" = some (some (.ref fI)) ∧ PySem.W.typeIn K (.ref fI) = some (.type "function") ∧
    FnOk P w K mg base CX 1 fI fd ("self" :: fs.map Str.ofString) (Mx.spE C (fs.map Str.ofString)) ∧ Binds K fd ("self" :: fs.map Str.ofString) [] ∧ XfC K C ∧ (∀ f ∈ fs, PySem.W.findIn K (.ref C) (Str.ofString f) = some none) ∧ MxI.ClsT K C
  nd : (fs.map Str.ofString).Nodup
  pos : 0 < fs.length
  le : fs.length ≤ 20
/-- a class that an except clause may name -/
def Tx.hn (Φ : Tx) (d : String) : Bool := (Φ.xs d).isSome || (Φ.ce && d == "ComeError")
variable [Tabs]
/-- where a body runs: names, room, the built-ins' names, the text's defs at level k -/
structure Good (Φ : Tx) (x : SX) (X : Cx) (CX : CXT) (k : Nat) (E : XK) : Prop where
  eN : X.N = x.N
  eS : X.env.scope = x.sc
  eF : ∀ n, X.fn n = x.fb n
  nd : X.N.Nodup
  calm : X.calm = true
  room : Room (2 * k + 2) X.A
  gxr : x.gx = true → Room (2 * k + 3) X.A ∧ ∃ c P, X.env.code = .ref c ∧ GxR.TabB X.base X.mg c P ∧ P ∈ Tabs.T
  cst : ∀ s i, Φ.cs s = some i → ∃ u, X.mg (Str.ofString s) = some u ∧ RelV i.v u
  xok : ∀ c fs, Φ.xs c = some fs → XOk X.prog X.w X.K X.mg X.base CX c fs
  xm : ∀ d, Φ.hn d = true → ∃ dv, X.mg (Str.ofString d) = some dv ∧ ∀ c fs, Φ.xs c = some fs → ∃ cv, X.mg (Str.ofString c) = some cv ∧ PySem.W.exmOne X.K cv dv = some (xsub c d)
  bl : ∀ n ∈ bnames, X.mg (Str.ofString n) = none
  fns : ∀ f d, Φ f = some d → ∃ a fd, X.mg (Str.ofString f) = some (.ref a) ∧ PySem.W.keepIn X.K (.ref a) = true ∧
    FnOk X.prog X.w X.K X.mg X.base CX (2 * k + 2) a fd (d.ps.map Str.ofString) (spM X.K X.mg d.ps.length (evalFn Φ k f)) ∧ Binds X.K fd (d.ps.map Str.ofString) [] ∧
    ∀ n qs, (n, qs) ∈ d.kw → KBinds X.K fd (d.ps.map Str.ofString) ((ksOf d n qs).map Str.ofString) (placeN n qs) (placeN n qs)
  pass : Passes CX X E
  pass0 : ∀ Y : Cx, Y.prog = X.prog → Y.w = X.w → Passes CX Y (fun _ _ _ => False)
section
variable {Φ : Tx} {x : SX} {X : Cx} {CX : CXT} {k : Nat} {E : XK}
theorem Good.gl (g : Good Φ x X CX k E) {n : Str} (h : x.gl n = true) : Gl X n := by
  unfold SX.gl at h
  show X.env.scope.names.lookup n = _
  rw [g.eS]
  exact of_decide_eq_true h
theorem Good.vis (g : Good Φ x X CX k E) {n : Str} (h : x.vis n = true) : Vis X.env.scope n := by
  unfold SX.vis at h
  unfold Vis
  rw [g.eS]
  split at h
  · exact .inl (by assumption)
  · exact .inr (.inl (by assumption))
  · exact .inr (.inr (by assumption))
  · cases h
theorem Good.loc (g : Good Φ x X CX k E) {n : Str} (h : x.loc n = true) : L2.Loc X.env.scope n ∧ (X.fn n = true ∨ X.env.scope.names.lookup n = some .local) := by
  unfold SX.loc at h
  unfold L2.Loc
  rw [g.eS, g.eF]
  split at h
  · exact ⟨.inl (by assumption), .inr (by assumption)⟩
  · exact ⟨.inr (by assumption), .inl h⟩
  · cases h
theorem plainN_of {n : Str} (h : plainN n = true) : (n == ("__debug__" : Str)) = false ∧ (n == ("__classdict__" : Str)) = false := by
  unfold plainN at h
  simp only [Bool.and_eq_true, Bool.not_eq_true'] at h
  exact h
/-- a comprehension's block -/
theorem Good.blk (g : Good Φ x X CX k E) (s : Shared) (H : Hp) (C : Addr) (cl : List (Str × Addr)) (fp : List Addr) (sc : Scope) :
    Good Φ (x.in_ sc) (X.blk s H sc (compEnvC sc cl C X.env) fp) CX k (fun _ _ _ => False) where
  eN := g.eN
  eS := by
    show (compEnvC sc cl C X.env).scope = relS sc x.sc
    rw [← g.eS]; rfl
  eF := fun n => rfl
  nd := g.nd
  calm := g.calm
  room := g.room
  gxr := g.gxr
  cst := g.cst
  xok := g.xok
  xm := g.xm
  bl := g.bl
  fns := g.fns
  pass := g.pass0 _ rfl rfl
  pass0 := g.pass0
/-- a generator expression's frame -/
theorem Good.gen (g : Good Φ x X CX k E) (hx : x.gx = true) (s : Shared) (H : Hp) (C : Addr) (cl : List (Str × Addr)) (code : Value) (fp : List Addr) (sc : Scope) :
    Good Φ (x.gen sc) (gnx X s H (genEnv sc cl C code builtinsNs X.env) fp X.A.in1.in1) CX k (fun _ _ _ => False) where
  eN := g.eN
  eS := rfl
  eF := fun n => rfl
  nd := g.nd
  calm := g.calm
  room := by
    obtain ⟨hd, dp, un⟩ := (g.gxr hx).1
    refine ⟨hd, ?_, ?_⟩
    · show X.A.depth + 1 + 3 * (2 * k + 2) + 5 < recursionLimit
      omega
    · show X.A.units + 1 + 1 + 3 + 16 * (2 * k + 2) + 200 < cLine
      omega
  gxr := fun h => by cases h
  cst := g.cst
  xok := g.xok
  xm := g.xm
  bl := g.bl
  fns := g.fns
  pass := g.pass0 _ rfl rfl
  pass0 := g.pass0
end
end Mi

/-! t[::-1] of a tuple -/
namespace Mi
open PySem PySem.Spec PyProof.Rows L2 HT
section
variable {prog : Program} {w : World} {A : Around} {E : Value → Shared → Prop} {s : Shared}
theorem places_rev (n : Nat) : Builtin.Slice.slicePlaces ((n : Int) - 1) (-1) (-1) = n := by
  unfold Builtin.Slice.slicePlaces
  rw [if_neg (by decide)]
  by_cases h : (n : Int) - 1 > -1
  · rw [if_pos h, show (- -1 : Int) = 1 by decide, Int.ediv_one]; omega
  · rw [if_neg h]; omega
theorem applied_rev {sl : Addr} {vs : Value} {n : Nat} {Q : Int × Int × Nat → Shared → Prop} (hs : s.heap.IsSliceOf sl .none .none vs) (ps : IsPart vs (some (-1)))
    (h : Q ((n : Int) - 1, -1, n) s) : wpAny (model prog w) A (Builtin.Slice.sliceApplied (.ref sl) (pure (n : Int))) Q E s := by
  obtain ⟨os, hos, hcs, hds⟩ := id hs
  unfold Builtin.Slice.sliceApplied Builtin.Slice.sliceFields
  refine wpAny_bind (wpAny_bind (wpAny_field hos hds (x := .none) rfl (wpAny_bind (wpAny_field hos hds (x := .none) rfl (wpAny_bind (wpAny_field hos hds (x := vs) rfl (wpAny_pure ?_)))))))
  refine wpAny_bind (slicePart_ ps ?_)
  show wpAny _ _ (if ((-1 : Int) == 0) = true then _ else _) _ _ s
  rw [if_neg (by decide)]
  refine wpAny_bind (slicePart_none (wpAny_bind (slicePart_none (wpAny_bind (wpAny_pure ?_)))))
  show wpAny _ _ (pure ((n : Int) - 1, (-1 : Int), Builtin.Slice.slicePlaces ((n : Int) - 1) (-1) (-1))) _ _ s
  rw [places_rev]
  exact wpAny_pure h
theorem pick_rev (xs : Array Value) : ((List.range xs.size).filterMap fun (m : Nat) => xs[((xs.size : Int) - 1 + (m : Int) * -1).toNat]?).toArray = xs.toList.reverse.toArray := by
  have e : (fun (m : Nat) => xs[((xs.size : Int) - 1 + (m : Int) * -1).toNat]?) = fun m => xs[xs.size - 1 - m]? := by
    funext m
    have : ((xs.size : Int) - 1 + (m : Int) * -1).toNat = xs.size - 1 - m := by omega
    rw [this]
  rw [e]
  have h := PySem.W.krv_range xs.size
  have h2 := PySem.W.krv_all xs
  have : (List.range xs.size).filterMap (fun m => xs[xs.size - 1 - m]?) = ((List.range xs.size).map fun k => xs.size - 1 - k).filterMap (xs[·]?) := by
    rw [List.filterMap_map]; rfl
  rw [this, h, List.filterMap_reverse, h2]
theorem getItem_tuple_rev {t sl : Addr} {items : Array Value} {vs : Value} {Q : Value → Shared → Prop} (ht : IsTup s.heap t items) (hs : s.heap.IsSliceOf sl .none .none vs) (ps : IsPart vs (some (-1)))
    (h : Q (.ref s.heap.objs.size) { s with heap := s.heap.push { cls := .type "tuple", data := .seq items.toList.reverse.toArray } })
    (hsz : items.size ≤ sizeLine) : wpAny (model prog w) A (getItem (.ref t) (.ref sl)) Q E s := by
  have htake : sizeOk (.seq items.toList.reverse.toArray) := by
    show items.toList.reverse.toArray.size ≤ sizeLine
    simpa using hsz
  obtain ⟨os, hos, hcs, hds⟩ := id hs
  have hTs : s.TypeIs (.ref sl) "slice" := ⟨os, hos, hcs⟩
  unfold getItem
  try with_reducible refine wpAny_holding ?_
  first | refine wpAny_bind (wpAny_pure ?_) | skip
  refine wpAny_bind (wpAny_sequenceKey ht.typeIs (by decide) ?_)
  refine wpAny_bind (wpAny_callSpecial?_slot (name := Str.ofString "__getitem__") ht.typeIs PyProof.Rows.slot_tuple_getitem
    (wpAny_call_entry PyProof.Rows.slot_tuple_getitem ht.typeIs entry_tuple_getitem ?_ (args_tuple_getitem _ _)))
  show wpAny _ _ (Builtin.Tuple.tupleItemsOf (.ref t) >>= _) _ _ s
  refine wpAny_bind (tupleItemsOf_ ht ?_)
  refine wpAny_bind (wpAny_typeOf hTs ?_)
  rw [if_pos (by decide)]
  refine wpAny_bind (applied_rev hs ps ?_)
  have hno : ¬ (((items.size : Int) - 1 == 0 && (-1 : Int) == 1 && items.size == items.size) = true) := by
    intro q
    rw [Bool.and_eq_true, Bool.and_eq_true] at q
    exact absurd q.1.2 (by decide)
  show wpAny _ _ (if ((items.size : Int) - 1 == 0 && (-1 : Int) == 1 && items.size == items.size) = true then _ else _) _ _ s
  rw [if_neg hno, pick_rev]
  first
    | exact wpAny_bind (m := Builtin.Tuple.tupleExact _) (wpAny_newObj_type (wpAny_pure ⟨_, rfl, wpAny_pure h⟩) htake)
    | exact wpAny_bind (m := Builtin.Tuple.tupleExact _) (wpAny_newObj_type (wpAny_bind (wpAny_pure (wpAny_pure ⟨_, rfl, wpAny_pure h⟩))) htake)
    | exact wpAny_bind (wpAny_bind (m := Builtin.Tuple.tupleExact _) (wpAny_newObj_type (wpAny_pure (wpAny_pure ⟨_, rfl, wpAny_pure h⟩)) htake))
    | exact wpAny_bind (wpAny_bind (m := Builtin.Tuple.tupleExact _) (wpAny_newObj_type (wpAny_pure ⟨_, rfl, wpAny_pure h⟩) htake))
end
section
variable {X : Cx}
/-- xs[::-1], a list or a tuple: a new one of its kind -/
def tRevX (K : PySem.W.Frag) (te : TE) : TE := fun σ H Q => te σ H fun x H1 => ∃ a xs, x = .ref a ∧ ((SqL K H1 a xs ∧ ∀ p, H1 p = none → Q (.ref p) (upd H1 p (.lst xs.reverse))) ∨ (SqT K H1 a xs ∧ ∀ p, H1 p = none → Q (.ref p) (upd H1 p (.tup xs.reverse))))
theorem pe_revX {e : Expr} {te : TE} {k : Nat} {p1 p2 p3 pos : Pos} (he : PE X e te) : PE X (.Subscript e (.Slice none none (some (.UnaryOp .USub (.Constant (.int 1) k p1) p2)) p3) pos) (tRevX X.K te) := by
  refine ⟨fun pins s σ H Q I h => ?_⟩
  refine Subscript_ (thn (he.run pins s σ H _ I h) fun v s1 ⟨x, H1, I1, r1, q1⟩ => ?_)
  obtain ⟨a, xs, ex, hq⟩ := q1
  subst ex
  cases r1
  have hst : PO X (some (.UnaryOp .USub (.Constant (.int 1) k p1) p2)) (tPart (tUn (rU fun i => .int (-i)) (tC (.int 1)))) := po_some (pe_un un_neg pe_int)
  refine wpAny_Slice (thn (po_none.run pins s1 σ H1 (fun o H2 => o = none ∧ H2 = H1) I1 ⟨rfl, rfl⟩) fun vl s2 ⟨l, H2, I2, pl, el, e2⟩ => ?_)
  subst el e2
  refine thn (po_none.run pins s2 σ H2 (fun o H3 => o = none ∧ H3 = H2) I2 ⟨rfl, rfl⟩) fun vu s3 ⟨u, H3, I3, pu, eu, e3⟩ => ?_
  subst eu e3
  refine thn (hst.run pins s3 σ H3 (fun o H4 => o = some (-1) ∧ H4 = H3) I3 ⟨1, rfl, -1, rfl, rfl, rfl⟩) fun vs s4 ⟨o, H4, I4, ps, eo, e4⟩ => ?_
  subst eo e4
  have I5 : Inv X pins σ H4 { s4 with heap := s4.heap.push { cls := .type "slice", data := .fields #[vl, vu, vs] } } := I4.kept (t' := s4.toks) fun b ob q => Heap.get?_push_of_some _ q
  show wpAny (model X.prog X.w) X.A (subscriptTail e (.Slice none none (some (.UnaryOp .USub (.Constant (.int 1) k p1) p2)) p3) (.ref a) (.ref s4.heap.objs.size)) (EP X pins σ Q) X.xe { s4 with heap := s4.heap.push { cls := .type "slice", data := .fields #[vl, vu, vs] } }
  rcases hq with ⟨hx, q⟩ | ⟨hx, q⟩
  · obtain ⟨its, r, ht, hz⟩ := I5.list hx
    have hlen := r.length
    refine tail_any (ops := [.ref a, .ref s4.heap.objs.size]) ht.isList.typeIs (PySem.slot_list_getitem.lookup) ?_ (by with_unfolding_all rfl)
    refine wpAny_getItem_list_slice ht.isList (Heap.IsSliceOf.new _ vl vu vs) pl pu ps (by decide) ?_ (by rw [List.size_toArray]; omega)
    rw [PySem.W.krv_pick]
    refine ⟨.ref _, _, I5.laid (t' := s4.toks) (o := .lst xs.reverse) (fun b ob q => Heap.get?_push_of_some _ q) (Nat.le_refl _) ?_, rfl, q _ (I5.hok.fresh (Nat.le_refl _))⟩
    exact ⟨by rw [List.length_reverse]; exact hz, _, 0, r.reverse, Heap.get?_push_size _ rfl⟩
  · obtain ⟨its, r, ht, hz⟩ := I5.tuple hx
    have hlen := r.length
    cases pl
    cases pu
    refine tail_any (ops := [.ref a, .ref s4.heap.objs.size]) ht.typeIs (PyProof.Rows.slot_tuple_getitem.lookup) ?_ (by with_unfolding_all rfl)
    refine getItem_tuple_rev ht (Heap.IsSliceOf.new _ .none .none vs) ps ?_ (by rw [List.size_toArray]; omega)
    refine ⟨.ref _, _, I5.laid (t' := s4.toks) (o := .tup xs.reverse) (fun b ob q => Heap.get?_push_of_some _ q) (Nat.le_refl _) ?_, rfl, q _ (I5.hok.fresh (Nat.le_refl _))⟩
    exact ⟨by rw [List.length_reverse]; exact hz, _, r.reverse, IsTup.new _ _⟩
end
end Mi

namespace Mi
open PySem PySem.Spec L2
variable [Tabs]

section
variable {Φ : Tx} {x : SX} {X : Cx} {CX : CXT} {k : Nat} {E : XK}
/-- a def's own text is read over this -/
abbrev rdC (X : Cx) (Φ : Tx) (k : Nat) (E : XK) (c : C) : TE := tM X.K X.mg E (ev (evalFn Φ k) c)
abbrev rdT (X : Cx) (Φ : Tx) (k : Nat) (E : XK) (c : T) : TT := tB' X.K X.mg E (evT (evalFn Φ k) c)
abbrev rdCs (X : Cx) (Φ : Tx) (k : Nat) (E : XK) (c : Cs) : TA := tMs X.K X.mg E (evs (evalFn Φ k) c)

theorem l_var {i : Nat} {n : Str} {p : Pos} (g : Good Φ x X CX k E) (h1 : x.N[i]? = some n) (h2 : x.vis n = true) (h3 : plainN n = true) : PE X (.Name n p) (rdC X Φ k E (.var i)) := by
  refine PE.wk (pe_var (i := i) (by rw [g.eN]; exact h1) (g.vis h2) (plainN_of h3).1 (plainN_of h3).2) ?_
  rintro σ H Q ⟨Z, α, S, γ, s, er, h⟩
  simp only [ev] at h
  split at h
  · rename_i m e
    obtain ⟨v, e1, r⟩ := er.get i m e
    exact ⟨v, e1, out_val s r h⟩
  · exact False.elim h
theorem l_con {q : Kon} {m : M} {v : V} {e : Expr} (hm : q.m = m) (he : PE X e (tC v)) (hr : ∀ Z α H, Rep X.K Z α H m v) : PE X e (rdC X Φ k E (.con q)) := by
  refine PE.wk he ?_
  rintro σ H Q ⟨Z, α, S, γ, s, er, h⟩
  simp only [ev, hm] at h
  exact out_val s (hr _ _ _) h
theorem l_tup {es : Cs} {l : List Expr} {j : Nat} {p : Pos} (h : PA X l (rdCs X Φ k E es)) : PE X (.Tuple l j p) (rdC X Φ k E (.tup es)) := by
  refine PE.wk (pe_tup h) ?_
  rintro σ H Q ⟨Z, α, S, γ, s, er, h⟩
  simp only [ev] at h
  refine ⟨Z, α, S, γ, s, er, h.bind.imp fun ms S1 α1 H1 t1 s1 h vs r => ?_⟩
  obtain ⟨c, h⟩ := h.when
  have := big_line
  exact ⟨by rw [← r.length]; omega, fun q hq => Out.mkT s1 r hq h⟩
theorem l_lst {al : Bool} {es : Cs} {l : List Expr} {p : Pos} (h : PA X l (rdCs X Φ k E es)) : PE X (.List l p) (rdC X Φ k E (.lst al es)) := by
  refine PE.wk (pe_lst h) ?_
  rintro σ H Q ⟨Z, α, S, γ, s, er, h⟩
  simp only [ev] at h
  refine ⟨Z, α, S, γ, s, er, h.bind.imp fun ms S1 α1 H1 t1 s1 h vs r => ?_⟩
  obtain ⟨c, h⟩ := h.when
  have := big_line
  exact ⟨by rw [← r.length]; omega, fun q hq => Out.mkL s1 r hq h⟩
theorem l_bin {al : Bool} {o : Bop} {a b : C} {e f : Expr} {p : Pos} (ha : PE X e (rdC X Φ k E a)) (hb : PE X f (rdC X Φ k E b)) : PE X (.BinOp e o.op f p) (rdC X Φ k E (.bin al o a b)) := by
  refine PE.wk (pe_op (op_bin o) ha hb) ?_
  rintro σ H Q ⟨Z, α, S, γ, s, er, h⟩
  simp only [ev] at h
  refine ⟨Z, α, S, γ, s, er, h.bind.imp fun m S1 α1 H1 t1 s1 h v rv => ⟨Z, α1, S1, γ, s1, er.tr s.muts t1, h.bind.imp fun n S2 α2 H2 t2 s2 h u ru => ?_⟩⟩
  exact bin_out s2 (Rep.tr s1.muts t2 _ _ rv) ru h
theorem l_neg {a : C} {e : Expr} {p : Pos} (ha : PE X e (rdC X Φ k E a)) : PE X (.UnaryOp .USub e p) (rdC X Φ k E (.neg a)) := by
  refine PE.wk (pe_un un_neg ha) ?_
  rintro σ H Q ⟨Z, α, S, γ, s, er, h⟩
  simp only [ev] at h
  refine ⟨Z, α, S, γ, s, er, h.bind.imp fun m S1 α1 H1 t1 s1 h v rv => ?_⟩
  split at h
  · exact ⟨_, rep_int rv, out_int s1 h⟩
  · exact False.elim h
theorem l_cmp {o : Cop} {a b : C} {e f : Expr} {p : Pos} (ha : PE X e (rdC X Φ k E a)) (hb : PE X f (rdC X Φ k E b)) (hm : behindInMarks o.op f = false) : PE X (.Compare e [o.op] [f] p) (rdC X Φ k E (.cmp o a b)) := by
  refine PE.wk (pe_cmpR (op_cmp o) ha hb hm) ?_
  rintro σ H Q ⟨Z, α, S, γ, s, er, h⟩
  simp only [ev] at h
  refine ⟨Z, α, S, γ, s, er, h.bind.imp fun m S1 α1 H1 t1 s1 h v rv => ⟨Z, α1, S1, γ, s1, er.tr s.muts t1, h.bind.imp fun n S2 α2 H2 t2 s2 h u ru => ?_⟩⟩
  exact cmp_out s2 (Rep.tr s1.muts t2 _ _ rv) ru h
theorem l_chain {o o' : Cop} {a b c : C} {e f d : Expr} {p : Pos} (ha : PE X e (rdC X Φ k E a)) (hb : PE X f (rdC X Φ k E b)) (hc : PE X d (rdC X Φ k E c)) (hm : behindInMarks o'.op d = false) :
    PE X (.Compare e [o.op, o'.op] [f, d] p) (rdC X Φ k E (.chain o o' a b c)) := by
  refine PE.wk (pe_chain (op_cmp o) (op_cmp o') ha hb hc (show lastMarks [o.op, o'.op] [f, d] = false from hm)) ?_
  rintro σ H Q ⟨Z, α, S, γ, s, er, h⟩
  simp only [ev] at h
  refine ⟨Z, α, S, γ, s, er, h.bind.imp fun m S1 α1 H1 t1 s1 h v rv => ⟨Z, α1, S1, γ, s1, er.tr s.muts t1, h.bind.imp fun n S2 α2 H2 t2 s2 h u ru => ?_⟩⟩
  refine cmp_out s2 (Rep.tr s1.muts t2 _ _ rv) ru (h.bind.imp fun r S3 α3 H3 t3 s3 h z rz => ?_)
  split at h
  · refine ⟨true, rep_bl rz, ?_⟩
    rw [if_pos rfl]
    refine ⟨Z, α3, S3, γ, s3, (er.tr s.muts t1).tr s1.muts (t2.trans t3), h.bind.imp fun w S4 α4 H4 t4 s4 h y ry => ?_⟩
    exact cmp_out s4 (Rep.tr s2.muts (t3.trans t4) _ _ ru) ry h
  · refine ⟨false, rep_bl rz, ?_⟩
    rw [if_neg Bool.false_ne_true]
    exact out_bl s3 h
  · exact False.elim h
theorem l_and {a b : C} {e f : Expr} {fs : List Expr} {p p' : Pos} (ha : PE X e (rdC X Φ k E a)) (hb : PE X (.BoolOp .And (f :: fs) p) (rdC X Φ k E b)) : PE X (.BoolOp .And (e :: f :: fs) p) (rdC X Φ k E (.and a b)) := by
  refine PE.wk (pe_and ha hb) ?_
  rintro σ H Q ⟨Z, α, S, γ, s, er, h⟩
  simp only [ev] at h
  refine ⟨Z, α, S, γ, s, er, h.bind.imp fun m S1 α1 H1 t1 s1 h v rv => ?_⟩
  split at h
  · exact ⟨true, rep_bl rv, by rw [if_pos rfl]; exact ⟨Z, α1, S1, γ, s1, er.tr s.muts t1, h⟩⟩
  · exact ⟨false, rep_bl rv, by rw [if_neg Bool.false_ne_true]; exact out_bl s1 h⟩
  · exact False.elim h
theorem l_or {a b : C} {e f : Expr} {fs : List Expr} {p p' : Pos} (ha : PE X e (rdC X Φ k E a)) (hb : PE X (.BoolOp .Or (f :: fs) p) (rdC X Φ k E b)) : PE X (.BoolOp .Or (e :: f :: fs) p) (rdC X Φ k E (.or a b)) := by
  refine PE.wk (pe_or ha hb) ?_
  rintro σ H Q ⟨Z, α, S, γ, s, er, h⟩
  simp only [ev] at h
  refine ⟨Z, α, S, γ, s, er, h.bind.imp fun m S1 α1 H1 t1 s1 h v rv => ?_⟩
  split at h
  · exact ⟨true, rep_bl rv, by rw [if_pos rfl]; exact out_bl s1 h⟩
  · exact ⟨false, rep_bl rv, by rw [if_neg Bool.false_ne_true]; exact ⟨Z, α1, S1, γ, s1, er.tr s.muts t1, h⟩⟩
  · exact False.elim h
theorem l_one {a : C} {o : BoolOp} {e : Expr} {p : Pos} (ha : PE X e (rdC X Φ k E a)) : PE X (.BoolOp o [e] p) (rdC X Φ k E (.one a)) := by
  refine PE.wk (pe_one ha) ?_
  rintro σ H Q ⟨Z, α, S, γ, s, er, h⟩
  simp only [ev] at h
  exact ⟨Z, α, S, γ, s, er, h⟩
theorem l_not {a : C} {e : Expr} {p : Pos} (ha : PE X e (rdC X Φ k E a)) : PE X (.UnaryOp .Not e p) (rdC X Φ k E (.not a)) := by
  refine PE.wk (pe_not ha) ?_
  rintro σ H Q ⟨Z, α, S, γ, s, er, h⟩
  simp only [ev] at h
  refine ⟨Z, α, S, γ, s, er, h.bind.imp fun m S1 α1 H1 t1 s1 h v rv => ?_⟩
  split at h
  · exact ⟨_, rep_bl rv, out_bl s1 h⟩
  · exact False.elim h
theorem l_ife {t : T} {a b : C} {c e f : Expr} {p : Pos} (ht : PT X c (rdT X Φ k E t)) (ha : PE X e (rdC X Φ k E a)) (hb : PE X f (rdC X Φ k E b)) : PE X (.IfExp c e f p) (rdC X Φ k E (.ife t a b)) := by
  refine PE.wk (pe_ifExp ht ha hb) ?_
  rintro σ H Q ⟨Z, α, S, γ, s, er, h⟩
  simp only [ev] at h
  refine ⟨Z, α, S, γ, s, er, h.bind.imp fun m S1 α1 H1 t1 s1 h => ?_⟩
  cases m with
  | true => rw [if_pos rfl] at h ⊢; exact ⟨Z, α1, S1, γ, s1, er.tr s.muts t1, h⟩
  | false => rw [if_neg Bool.false_ne_true] at h ⊢; exact ⟨Z, α1, S1, γ, s1, er.tr s.muts t1, h⟩
theorem l_ix {a i : C} {e f : Expr} {p : Pos} (ha : PE X e (rdC X Φ k E a)) (hi : PE X f (rdC X Φ k E i)) (hf : odd f = false) : PE X (.Subscript e f p) (rdC X Φ k E (.ix a i)) := by
  refine PE.wk (pe_ix ((ix_list.or ix_tup).or ix_dic) ha hi (odd_ix hf)) ?_
  rintro σ H Q ⟨Z, α, S, γ, s, er, h⟩
  simp only [ev] at h
  refine ⟨Z, α, S, γ, s, er, h.bind.imp fun m S1 α1 H1 t1 s1 h v rv => ⟨Z, α1, S1, γ, s1, er.tr s.muts t1, h.bind.imp fun n S2 α2 H2 t2 s2 h u ru => ?_⟩⟩
  exact ix_out s2 (Rep.tr s1.muts t2 _ _ rv) ru h
/-- parts of a slice -/
abbrev rdO (X : Cx) (Φ : Tx) (k : Nat) (E : XK) (c : Co) : TO := fun σ H Q => tR X.K X.mg E (evo (evalFn Φ k) c) σ H fun _ o _ _ H' => Q o H'
theorem l_no : PO X none (rdO X Φ k E .no) := by
  refine ⟨fun pins s σ H Q I h => (po_none (X := X)).run pins s σ H Q I ?_⟩
  obtain ⟨Z, α, S, γ, s, er, h⟩ := h
  simp only [evo] at h
  exact h.now s
theorem sl_out {al : Bool} {m : M} {v : V} {lo hi : Option Int} {K : PySem.W.Frag} {mg : Str → Option Value} {Z α : List Addr} {H : Hp} {S : Store} {Q : VK} (s : SR K Z α H S) (rv : Rep K Z α H m v)
    (h : Out K Z mg E (slop al m lo hi S) α H (PM K Z Q)) : rSlL K v lo hi H Q ∨ rSlA K v lo hi H Q := by
  have key : ∀ ms, seqOf S m = some ms → (∀ l, m ≠ .tup l) → Out K Z mg E (mkL al (cutM ms lo hi) S) α H (PM K Z Q) → rSlL K v lo hi H Q ∨ rSlA K v lo hi H Q := fun ms e nt h => by
    obtain ⟨a, xs, rfl, hs, r⟩ := seq_rep s rv e
    rcases hs with ⟨hs, _⟩ | ⟨hs, em⟩
    · exact .inl ⟨a, xs, rfl, hs, fun p hp => Out.mkL s (cut_rep lo hi r) hp h⟩
    · exact absurd em (nt ms)
  unfold slop at h
  cases m with
  | tup ms =>
    simp only [Rep] at rv
    obtain ⟨a, xs, rfl, hs, r⟩ := rv
    refine .inr ⟨a, xs, rfl, hs, fun hw => ?_, fun _ p hp => Out.mkT s (cut_rep lo hi r) hp h⟩
    have e : cutM ms lo hi = ms := by
      unfold cutM
      rw [r.length, hw.1, hw.2, List.drop_zero, Nat.sub_zero, ← r.length, List.take_length]
    dsimp only at h
    rw [e] at h
    exact out_val s (m := .tup ms) (by simp only [Rep]; exact ⟨a, xs, rfl, hs, r⟩) h
  | str z => exact False.elim h
  | lst l => obtain ⟨ms, e, h⟩ := h.of; exact key ms e (by simp) h
  | scr l => obtain ⟨ms, e, h⟩ := h.of; exact key ms e (by simp) h
  | ref l => obtain ⟨ms, e, h⟩ := h.of; exact key ms e (by simp) h
  | non => obtain ⟨ms, e, h⟩ := h.of; exact key ms e (by simp) h
  | bl l => obtain ⟨ms, e, h⟩ := h.of; exact key ms e (by simp) h
  | int l => obtain ⟨ms, e, h⟩ := h.of; exact key ms e (by simp) h
theorem l_so {a : C} {e : Expr} (ha : PE X e (rdC X Φ k E a)) : PO X (some e) (rdO X Φ k E (.so a)) := by
  refine ⟨fun pins s σ H Q I h => (po_some ha).run pins s σ H Q I ?_⟩
  obtain ⟨Z, α, S, γ, s, er, h⟩ := h
  simp only [evo] at h
  refine ⟨Z, α, S, γ, s, er, h.bind.imp fun m S1 α1 H1 t1 s1 h v rv => ?_⟩
  split at h
  · exact ⟨_, rep_int rv, h.now s1⟩
  · exact False.elim h
theorem l_sl {al : Bool} {a : C} {lo hi : Co} {e : Expr} {l u : Option Expr} {p p2 : Pos} (ha : PE X e (rdC X Φ k E a)) (hl : PO X l (rdO X Φ k E lo)) (hu : PO X u (rdO X Φ k E hi)) :
    PE X (.Subscript e (.Slice l u none p2) p) (rdC X Φ k E (.sl al a lo hi)) := by
  refine PE.wk (pe_slice (sl_list.or sl_tupA) ha hl hu) ?_
  rintro σ H Q ⟨Z, α, S, γ, s, er, h⟩
  simp only [ev] at h
  refine ⟨Z, α, S, γ, s, er, h.bind.imp fun m S1 α1 H1 t1 s1 h v rv => ⟨Z, α1, S1, γ, s1, er.tr s.muts t1, h.bind.imp fun o1 S2 α2 H2 t2 s2 h => ?_⟩⟩
  refine ⟨Z, α2, S2, γ, s2, (er.tr s.muts t1).tr s1.muts t2, h.bind.imp fun o2 S3 α3 H3 t3 s3 h => ?_⟩
  exact sl_out s3 (Rep.tr s1.muts (t2.trans t3) _ _ rv) h
theorem rev_out {al : Bool} {m : M} {v : V} {K : PySem.W.Frag} {mg : Str → Option Value} {Z α : List Addr} {H : Hp} {S : Store} {Q : VK} (s : SR K Z α H S) (rv : Rep K Z α H m v)
    (h : Out K Z mg E (revop al m S) α H (PM K Z Q)) : ∃ a xs, v = .ref a ∧ ((SqL K H a xs ∧ ∀ p, H p = none → Q (.ref p) (upd H p (.lst xs.reverse))) ∨ (SqT K H a xs ∧ ∀ p, H p = none → Q (.ref p) (upd H p (.tup xs.reverse)))) := by
  have key : Out K Z mg E (.of (lstOf S m) fun ms => mkL al ms.reverse S) α H (PM K Z Q) → ∃ a xs, v = .ref a ∧ ((SqL K H a xs ∧ ∀ p, H p = none → Q (.ref p) (upd H p (.lst xs.reverse))) ∨ (SqT K H a xs ∧ ∀ p, H p = none → Q (.ref p) (upd H p (.tup xs.reverse)))) := fun h => by
    obtain ⟨ms, e, h⟩ := h.of
    obtain ⟨a, xs, rfl, hs, r⟩ := lst_rep s rv e
    exact ⟨a, xs, rfl, .inl ⟨.of hs, fun p hp => Out.mkL s r.reverse hp h⟩⟩
  unfold revop at h
  cases m with
  | tup ms =>
    simp only [Rep] at rv
    obtain ⟨a, xs, rfl, hs, r⟩ := rv
    exact ⟨a, xs, rfl, .inr ⟨hs, fun p hp => Out.mkT s r.reverse hp h⟩⟩
  | _ => exact key h
theorem l_rev {al : Bool} {a : C} {e : Expr} {j : Nat} {p p1 p2 p3 : Pos} (ha : PE X e (rdC X Φ k E a)) : PE X (.Subscript e (.Slice none none (some (.UnaryOp .USub (.Constant (.int 1) j p1) p2)) p3) p) (rdC X Φ k E (.rev al a)) := by
  refine PE.wk (pe_revX ha) ?_
  rintro σ H Q ⟨Z, α, S, γ, s, er, h⟩
  simp only [ev] at h
  exact ⟨Z, α, S, γ, s, er, h.bind.imp fun m S1 α1 H1 t1 s1 h v rv => rev_out s1 rv h⟩
/-! ### arguments -/
theorem l_nil : PA X [] (rdCs X Φ k E .nil) := by
  refine PA.wk pa_nil ?_
  rintro σ H Q ⟨Z, α, S, γ, s, er, h⟩
  simp only [evs] at h
  exact h.now s [] (by simp only [RepL])
theorem l_cons {a : C} {r : Cs} {e : Expr} {es : List Expr} (ha : PE X e (rdC X Φ k E a)) (hr : PA X es (rdCs X Φ k E r)) (ho : odd e = false) : PA X (e :: es) (rdCs X Φ k E (.cons a r)) := by
  refine PA.wk (pa_cons ha hr (odd_star ho es X.env)) ?_
  rintro σ H Q ⟨Z, α, S, γ, s, er, h⟩
  simp only [evs] at h
  refine ⟨Z, α, S, γ, s, er, h.bind.imp fun m S1 α1 H1 t1 s1 h v rv => ⟨Z, α1, S1, γ, s1, er.tr s.muts t1, h.bind.imp fun ms S2 α2 H2 t2 s2 h us ru => ?_⟩⟩
  exact h.now s2 (v :: us) (by simp only [RepL]; exact ⟨v, us, rfl, Rep.tr s1.muts t2 _ _ rv, ru⟩)
/-! ### calls of the text's defs -/
theorem derefs_len {S : Store} : ∀ {ms as : List M}, derefs S ms = some as → ms.length = as.length
  | [], as, e => by simp only [derefs, Option.some.injEq] at e; subst e; rfl
  | m :: ms, as, e => by
    simp only [derefs] at e
    obtain ⟨a, e1, e⟩ := Option.bind_eq_some_iff.mp e
    obtain ⟨bs, e2, rfl⟩ := Option.map_eq_some_iff.mp e
    simp only [List.length_cons, derefs_len e2]
theorem evalFn_len {f : String} {d : Fn} {ms : List M} {S : Store} (hd : Φ f = some d) (h : evalFn Φ k f ms S ≠ .bad) : ms.length = d.ps.length := by
  cases k with
  | zero => exact absurd rfl h
  | succ k =>
    simp only [evalFn, hd] at h
    by_cases c : ms.length = d.ps.length
    · exact c
    · exact absurd (if_neg c) h
theorem callM_len {K : PySem.W.Frag} {mg : Str → Option Value} {Z α : List Addr} {H : Hp} {pu : Bool} {f : String} {d : Fn} {ms : List M} {S : Store} {P : M → Store → List Addr → Hp → Prop} (hd : Φ f = some d)
    (h : Out K Z mg E (callM (evalFn Φ k) pu f ms S) α H P) : ms.length = d.ps.length := by
  unfold callM at h
  cases pu with
  | false =>
    rw [if_neg (by simp)] at h
    exact evalFn_len hd fun z => by rw [z] at h; exact h
  | true =>
    rw [if_pos rfl] at h
    obtain ⟨as, e, h⟩ := h.of
    rw [derefs_len e]
    refine evalFn_len (k := k) (S := []) hd fun z => ?_
    rw [z] at h
    exact h
theorem l_call {pu : Bool} {f : String} {d : Fn} {es : Cs} {n : Str} {l : List Expr} {p q : Pos} (g : Good Φ x X CX k E) (hd : Φ f = some d) (hn : n = Str.ofString f) (hg : x.gl n = true) (hp : plainN n = true) (ha : PA X l (rdCs X Φ k E es)) (ho : AllOdd l) (hnil : l = [] → es = .nil) :
    PE X (.Call (.Name n p) l [] q) (rdC X Φ k E (.call pu f es)) := by
  subst hn
  obtain ⟨a, fd, hm, hk, F, hb, _⟩ := g.fns f d hd
  have main : ∀ σ H Q, rdC X Φ k E (.call pu f es) σ H Q → tCall (spM X.K X.mg d.ps.length (evalFn Φ k f)) [] E (rdCs X Φ k E es) σ H Q := by
    rintro σ H Q ⟨Z, α, S, γ, s, er, h⟩
    simp only [ev] at h
    refine ⟨Z, α, S, γ, s, er, h.bind.imp fun ms S1 α1 H1 t1 s1 h vs r => ?_⟩
    show spM X.K X.mg d.ps.length (evalFn Φ k f) (vs ++ []) H1 Q E
    rw [List.append_nil]
    exact call_out s1 r (by rw [← r.length]; exact callM_len hd h) h
  cases l with
  | nil =>
    cases hnil rfl
    refine PE.wk (pe_call0 F g.room (g.gl hg) hm hk hb .nil g.pass (plainN_of hp).1) fun σ H Q h => ?_
    obtain ⟨Z2, α2, S2, γ2, s2, er2, h2⟩ := main σ H Q h
    simp only [evs] at h2
    exact h2.now s2 [] (by simp only [RepL])
  | cons e es' => exact PE.wk (pe_call F g.room (g.gl hg) hm hk hb .nil g.pass ha (plainN_of hp).1 (odd_star (ho e List.mem_cons_self) es' X.env) (stars_off (fun e he => ho e (List.mem_cons_of_mem _ he)) q X.env)) main
/-! ### calls of built-ins -/
theorem boot_bi (b : Bi) : bootBuiltins (Str.ofString b.name) = some b.val := by cases b <;> first | decide +kernel | (rename_i al; revert al; decide +kernel)
theorem bi_in (b : Bi) : b.name ∈ bnames := by cases b <;> first | decide +kernel | (rename_i al; revert al; decide +kernel)
theorem bi_ne (b : Bi) : Str.ofString b.name ≠ ("__name__" : Str) ∧ (Str.ofString b.name == ("__debug__" : Str)) = false := by cases b <;> first | decide +kernel | (rename_i al; revert al; decide +kernel)
theorem l_bi {b : Bi} {es : Cs} {n : Str} {e : Expr} {l : List Expr} {p q : Pos} (g : Good Φ x X CX k E) (hn : n = Str.ofString b.name) (hg : x.gl n = true) (ha : PA X (e :: l) (rdCs X Φ k E es)) (ho : AllOdd (e :: l)) :
    PE X (.Call (.Name n p) (e :: l) [] q) (rdC X Φ k E (.bi b es)) := by
  subst hn
  have main : ∀ σ H Q, rdC X Φ k E (.bi b es) σ H Q → tCB (rBi X.K b) (rdCs X Φ k E es) σ H Q := by
    rintro σ H Q ⟨Z, α, S, γ, s, er, h⟩
    simp only [ev] at h
    exact ⟨Z, α, S, γ, s, er, h.bind.imp fun ms S1 α1 H1 t1 s1 h vs r => bi_out s1 r h⟩
  have h1 := odd_star (ho e List.mem_cons_self) l X.env
  have h2 := stars_off (fun e he => ho e (List.mem_cons_of_mem _ he)) q X.env
  have hm := g.bl b.name (bi_in b)
  have hc := call_bi g.calm b
  have hv := boot_bi b
  unfold Bi.val at hc hv
  by_cases ht : b.isT = true
  · rw [if_pos ht] at hc hv
    exact PE.wk (pe_callTy hc (g.gl hg) hm hv ha (bi_ne b).1 (bi_ne b).2 h1 h2) main
  · rw [if_neg ht] at hc hv
    exact PE.wk (pe_callB hc (g.gl hg) hm hv ha (bi_ne b).1 (bi_ne b).2 h1 h2) main
/-! ### methods -/
theorem kw_none {es : List Expr} {env : PySem.Env} {cpos : Pos} (ho : AllOdd es) (hl : es.length ≤ 8) :
    ((backTo cpos (starEach es env)).all (fun x => !x.1) && (backToKw cpos (keywordEach [] env)).all (fun x => x.1.isSome) && decide (es.length + ([] : List Keyword).length + (if ([] : List Keyword).isEmpty then 0 else 1) < 30)) = true := by
  rw [stars_all ho]
  show (true && true && decide (es.length + 0 + 0 < 30)) = true
  rw [decide_eq_true (by omega)]
  rfl
theorem l_meth {m : Me} {o : C} {es : Cs} {e : Expr} {l : List Expr} {ap cp : Pos} (hb : noCall e = true) (hl : (ap.endLine == cp.line) = true) (h8 : l.length ≤ 8) (he : PE X e (rdC X Φ k E o)) (ha : PA X l (rdCs X Φ k E es)) (ho : AllOdd l) (hnil : l = [] → es = .nil) :
    PE X (.Call (.Attribute e (Str.ofString m.name) ap) l [] cp) (rdC X Φ k E (.meth m o es)) := by
  have main : ∀ σ H Q, rdC X Φ k E (.meth m o es) σ H Q → tBM X.K "list" (rMe m) (rdC X Φ k E o) (rdCs X Φ k E es) σ H Q := by
    rintro σ H Q ⟨Z, α, S, γ, s, er, h⟩
    simp only [ev] at h
    refine ⟨Z, α, S, γ, s, er, h.bind.imp fun mo S1 α1 H1 t1 s1 h v rv => ?_⟩
    obtain ⟨zs, e1, h⟩ := h.of
    obtain ⟨a, xs, rfl, hs, r⟩ := lst_rep s1 rv e1
    refine ⟨.inl ⟨rfl, xs, .of hs⟩, Z, α1, S1, γ, s1, er.tr s.muts t1, h.bind.imp fun ms S2 α2 H2 t2 s2 h us ru => ?_⟩
    exact me_out s2 (Rep.tr s1.muts t2 _ _ rv) ru h
  have base : attributeBase e (Str.ofString m.name) X.env (eval e X.env) = eval e X.env := noCall_base hb _ _ _
  have slot : ∃ id, Slot "list" (Str.ofString m.name) id ∧ typeOf (.builtin id) = pure (.type "method_descriptor") ∧ MtR X id (rMe m) := by
    cases m with
    | append => exact ⟨_, PySem.F.slot_list_append, PySem.F.type_list_append, mt_append⟩
    | pop => exact ⟨_, PySem.F.slot_list_pop, PySem.F.type_list_pop, MtR.or mt_pop mt_popAt⟩
    | extend => exact ⟨_, PySem.F.slot_list_extend, PySem.F.type_list_extend, mt_extend⟩
    | insert => exact ⟨_, PySem.F.slot_list_insert, PySem.F.type_list_insert, mt_insert⟩
    | remove => exact ⟨_, PySem.F.slot_list_remove, PySem.F.type_list_remove, mt_remove⟩
  obtain ⟨id, sl, ty, mr⟩ := slot
  cases l with
  | nil =>
    cases hnil rfl
    refine PE.wk (pe_bm0 PySem.F.plainAttrs_list sl ty mr he base hl) fun σ H Q h => ?_
    obtain ⟨Z, α, S, γ, s, er, h⟩ := main σ H Q h
    refine ⟨Z, α, S, γ, s, er, h.imp fun mo S1 α1 H1 t1 s1 h v rv => ?_⟩
    obtain ⟨hy, Z2, α2, S2, γ2, s2, er2, h2⟩ := h v rv
    simp only [evs] at h2
    exact ⟨hy, h2.now s2 [] (by simp only [RepL])⟩
  | cons a as =>
    exact PE.wk (pe_bm PySem.F.plainAttrs_list sl ty mr he ha base (kw_none ho h8) hl (odd_star (ho a List.mem_cons_self) as X.env) (stars_off (fun e he => ho e (List.mem_cons_of_mem _ he)) cp X.env)) main
end
end Mi

namespace Mi
open PySem PySem.Spec L2
variable [Tabs]

section
variable {Φ : Tx} {x : SX} {X : Cx} {CX : CXT} {k : Nat} {E : XK}
/-! ### isinstance -/
theorem boot_cls : (clNames.all fun c => decide (bootBuiltins (Str.ofString c) = some (.type c)) && decide (c ∈ bnames) && decide (Str.ofString c ≠ ("__name__" : Str)) && !(Str.ofString c == ("__debug__" : Str))) = true := by decide +kernel
theorem cls_facts {c : String} (h : c ∈ clNames) : bootBuiltins (Str.ofString c) = some (.type c) ∧ c ∈ bnames ∧ Str.ofString c ≠ ("__name__" : Str) ∧ (Str.ofString c == ("__debug__" : Str)) = false := by
  have := List.all_eq_true.mp boot_cls c h
  simp only [Bool.and_eq_true, decide_eq_true_eq, Bool.not_eq_true'] at this
  exact ⟨this.1.1.1, this.1.1.2, this.1.2, this.2⟩
theorem pe_cls {c : String} {p : Pos} (g : Good Φ x X CX k E) (h : c ∈ clNames) (hg : x.gl (Str.ofString c) = true) : PE X (.Name (Str.ofString c) p) (tC (.ty c)) := by
  obtain ⟨h1, h2, h3, h4⟩ := cls_facts h
  exact pe_bltn (g.gl hg) (g.bl c h2) h1 rfl h3 h4
theorem pa_cls (g : Good Φ x X CX k E) : ∀ {ts : List String} {es : List Expr}, chkTy x ts es = true → PA X es (fun _ H Q => Q (ts.map V.ty) H) ∧ AllOdd es ∧ ts.length = es.length ∧ ∀ t ∈ ts, t ∈ clNames
  | [], es, h => by
    cases es with
    | nil => exact ⟨pa_nil, (by intro e he; cases he), rfl, (by intro t ht; cases ht)⟩
    | cons e es => simp [chkTy] at h
  | t :: ts, es, h => by
    cases es with
    | nil => simp [chkTy] at h
    | cons e es =>
      cases e <;> simp only [chkTy, Bool.and_eq_true, decide_eq_true_eq, Bool.false_eq_true] at h
      rename_i n p
      obtain ⟨⟨⟨rfl, h2⟩, h3⟩, h4⟩ := h
      obtain ⟨ih, ho, hl, hc⟩ := pa_cls g h4
      refine ⟨PA.wk (pa_cons (pe_cls g h3 h2) ih (odd_star rfl es X.env)) fun σ H Q h => h, fun e he => ?_, by simp [hl], fun u hu => ?_⟩
      · rcases List.mem_cons.mp he with rfl | he
        · rfl
        · exact ho e he
      · rcases List.mem_cons.mp hu with rfl | hu
        · exact h3
        · exact hc u hu
theorem paired_cls : ∀ ts : List String, Paired ClsV (ts.map V.ty) (ts.map Value.type)
  | [] => .nil
  | t :: ts => .cons (.ty t) (paired_cls ts)
theorem isi_gl (g : Good Φ x X CX k E) {n : Str} (hn : n = Str.ofString "isinstance") (hg : x.gl n = true) : Gl X ("isinstance" : Str) ∧ X.mg ("isinstance" : Str) = none := by
  subst hn
  exact ⟨g.gl hg, g.bl "isinstance" (by decide)⟩
theorem isi_args {a : C} {ts : List String} {e : Expr} {te : TE} {c : Expr} (ha : PE X e (rdC X Φ k E a)) : True := trivial
theorem l_isi1 {a : C} {t : String} {n m : Str} {e : Expr} {p p2 q : Pos} (g : Good Φ x X CX k E) (hn : n = Str.ofString "isinstance") (hg : x.gl n = true) (ha : PE X e (rdC X Φ k E a)) (ho : odd e = false) (hm : m = Str.ofString t) (hgm : x.gl m = true) (ht : t ∈ clNames) :
    PE X (.Call (.Name n p) [e, .Name m p2] [] q) (rdC X Φ k E (.isi a [t])) := by
  subst hm
  obtain ⟨h1, h2⟩ := isi_gl g hn hg
  subst hn
  refine PE.wk (pe_callB call_isi h1 h2 (by decide +kernel) (pa_cons ha (pa_cons (pe_cls g ht hgm) pa_nil (odd_star rfl [] X.env)) (odd_star ho _ X.env)) (by decide) (by decide) (odd_star ho _ X.env) (stars_off (fun e he => by rw [List.mem_singleton.mp he]; rfl) q X.env)) ?_
  rintro σ H Q ⟨Z, α, S, γ, s, er, h⟩
  simp only [ev] at h
  refine ⟨Z, α, S, γ, s, er, h.bind.imp fun mo S1 α1 H1 t1 s1 h v rv => ?_⟩
  unfold isiop at h
  obtain ⟨ty, e1, h⟩ := h.of
  refine ⟨v, .ty t, .type ty, .type t, _, rfl, .ty t, ty_rep s1 rv e1, kit_isTy (tyOf_mem e1) ht, ?_⟩
  have : [t].any (isTy ty) = isTy ty t := by simp
  rw [this] at h
  exact out_bl s1 h
theorem l_isiT {a : C} {ts : List String} {n : Str} {e : Expr} {cs : List Expr} {j : Nat} {p p2 q : Pos} (g : Good Φ x X CX k E) (hn : n = Str.ofString "isinstance") (hg : x.gl n = true) (ha : PE X e (rdC X Φ k E a)) (ho : odd e = false) (h20 : cs.length ≤ 20) (hc : chkTy x ts cs = true) :
    PE X (.Call (.Name n p) [e, .Tuple cs j p2] [] q) (rdC X Φ k E (.isi a ts)) := by
  obtain ⟨h1, h2⟩ := isi_gl g hn hg
  subst hn
  obtain ⟨pc, oc, lc, mc⟩ := pa_cls g hc
  refine PE.wk (pe_callB call_isiT h1 h2 (by decide +kernel) (pa_cons ha (pa_cons (pe_tup pc) pa_nil (odd_star rfl [] X.env)) (odd_star ho _ X.env)) (by decide) (by decide) (odd_star ho _ X.env) (stars_off (fun e he => by rw [List.mem_singleton.mp he]; rfl) q X.env)) ?_
  rintro σ H Q ⟨Z, α, S, γ, s, er, h⟩
  simp only [ev] at h
  refine ⟨Z, α, S, γ, s, er, h.bind.imp fun mo S1 α1 H1 t1 s1 h v rv => ?_⟩
  unfold isiop at h
  obtain ⟨ty, e1, h⟩ := h.of
  have bl := big_line
  refine ⟨by rw [List.length_map, lc]; unfold big at bl; omega, fun tp htp => ?_⟩
  have s2 := s1.new (o := .tup (ts.map V.ty)) htp
  have t2 := Tr.new (o := .tup (ts.map V.ty)) s1 htp
  exact ⟨v, tp, ts.map V.ty, .type ty, ts.map Value.type, _, rfl, upd_same, paired_cls ts, ty_rep s2 (Rep.tr s1.muts t2 _ _ rv) e1, kit_anyTy (tyOf_mem e1) mc, out_bl s2 (h.tr t2)⟩
/-! ### list(range(..)), tuple(range(..)) -/
theorem rg_ok {a b : Int} (h : RgOk' a b) : RgOk a b := by
  obtain ⟨h1, h2, h5⟩ := h
  exact ⟨by omega, by omega, by omega, by omega, Nat.le_trans h5 (by decide)⟩
theorem rg_rep {K : PySem.W.Frag} {Z α : List Addr} {H : Hp} (a b : Int) : RepL K Z α H (rangeL a b) (rgV a b) := by
  refine RepL.of_get (by simp [rangeL, rgV]) fun i m e => ?_
  unfold rangeL at e
  unfold rgV
  rw [List.getElem?_map] at e ⊢
  obtain ⟨j, hj, rfl⟩ := Option.map_eq_some_iff.mp e
  exact ⟨_, by rw [hj]; rfl, by simp only [Rep]⟩
/-- range(..) by its core arguments -/
def tRgM (X : Cx) (Φ : Tx) (k : Nat) (E : XK) (es : Cs) : Slots → Hp → (Int → Int → Hp → Prop) → Prop := fun σ H Q =>
  rdCs X Φ k E es σ H fun vs H' => (∃ j, vs = [.int j] ∧ Q 0 j H') ∨ (∃ i j, vs = [.int i, .int j] ∧ Q i j H')
theorem range12_rep {K : PySem.W.Frag} {Z α : List Addr} {H : Hp} {ms : List M} {vs : List V} {p : Int × Int} (r : RepL K Z α H ms vs) (e : range12 ms = some p) : (vs = [.int p.2] ∧ p.1 = 0) ∨ vs = [.int p.1, .int p.2] := by
  unfold range12 at e
  split at e
  · cases e
    obtain ⟨y, rfl, ry⟩ := repl1 r
    exact .inl ⟨by rw [rep_int ry], rfl⟩
  · cases e
    obtain ⟨y, z, rfl, ry, rz⟩ := repl2 r
    exact .inr (by rw [rep_int ry, rep_int rz])
  · cases e
theorem prg_core {es : Cs} {l : Expr} {r : List Expr} {n : Str} {p q : Pos} (g : Good Φ x X CX k E) (hn : n = Str.ofString "range") (hg : x.gl n = true) (ha : PA X (l :: r) (rdCs X Φ k E es)) (ho : AllOdd (l :: r)) :
    PRg X (.Call (.Name n p) (l :: r) [] q) (tRgM X Φ k E es) := by
  subst hn
  intro pins s σ H Q I h
  have h1 := odd_star (ho l List.mem_cons_self) r X.env
  have h2 := stars_off (fun e he => ho e (List.mem_cons_of_mem _ he)) q X.env
  refine PyProof.Rows.Call_ (ld_blt I (g.gl hg) (g.bl "range" (by decide)) PyProof.Rows.boot_range (PyProof.Rows.callWith_type1 (thn (ha.run q pins s σ H _ I h) fun us s1 ⟨vs, H1, I1, r1, q1⟩ => ?_) h1 h2))
  rcases q1 with ⟨j, rfl, q1⟩ | ⟨i, j, rfl, q1⟩
  · obtain ⟨u, rfl, t, rfl⟩ := vals1 r1
    exact call_range_1 ⟨_, 0, j, _, _, _, H1, rfl, IsRange.new _ _ _ _ _ _ _, I1.kept fun b u e => Heap.get?_push_of_some _ e, q1⟩
  · obtain ⟨u, w, rfl, ⟨t, rfl⟩, ⟨t', rfl⟩⟩ := vals2 r1
    exact call_range_2 ⟨_, i, j, _, _, _, H1, rfl, IsRange.new _ _ _ _ _ _ _, I1.kept fun b u e => Heap.get?_push_of_some _ e, q1⟩
theorem l_lrange {al : Bool} {es : Cs} {e : Expr} {n : Str} {p q : Pos} (g : Good Φ x X CX k E) (hn : n = Str.ofString "list") (hg : x.gl n = true) (he : PRg X e (tRgM X Φ k E es)) (ho : odd e = false) : PE X (.Call (.Name n p) [e] [] q) (rdC X Φ k E (.lrange al es)) := by
  subst hn
  refine PE.wk (pe_listRg g.calm (g.gl hg) (g.bl "list" (by decide)) he (odd_star ho [] X.env)) ?_
  rintro σ H Q ⟨Z, α, S, γ, s, er, h⟩
  simp only [ev] at h
  refine ⟨Z, α, S, γ, s, er, h.bind.imp fun ms S1 α1 H1 t1 s1 h vs r => ?_⟩
  obtain ⟨pr, e1, h⟩ := h.of
  obtain ⟨c, h⟩ := h.when
  have fin : ∀ a b, a = pr.1 → b = pr.2 → RgOk a b ∧ ∀ q, H1 q = none → Q (.ref q) (upd H1 q (.lst (rgV a b))) := fun a b ea eb => by
    subst ea eb
    exact ⟨rg_ok c, fun q hq => Out.mkL s1 (rg_rep _ _) hq h⟩
  rcases range12_rep r e1 with ⟨e2, e3⟩ | e2
  · exact .inl ⟨_, e2, fin 0 _ e3.symm rfl⟩
  · exact .inr ⟨_, _, e2, fin _ _ rfl rfl⟩
theorem l_trange {es : Cs} {e : Expr} {n : Str} {p q : Pos} (g : Good Φ x X CX k E) (hn : n = Str.ofString "tuple") (hg : x.gl n = true) (he : PRg X e (tRgM X Φ k E es)) (ho : odd e = false) : PE X (.Call (.Name n p) [e] [] q) (rdC X Φ k E (.trange es)) := by
  subst hn
  refine PE.wk (pe_tupRg g.calm (g.gl hg) (g.bl "tuple" (by decide)) he (odd_star ho [] X.env)) ?_
  rintro σ H Q ⟨Z, α, S, γ, s, er, h⟩
  simp only [ev] at h
  refine ⟨Z, α, S, γ, s, er, h.bind.imp fun ms S1 α1 H1 t1 s1 h vs r => ?_⟩
  obtain ⟨pr, e1, h⟩ := h.of
  obtain ⟨c, h⟩ := h.when
  have fin : ∀ a b, a = pr.1 → b = pr.2 → RgOk a b ∧ ∀ q, H1 q = none → Q (.ref q) (upd H1 q (.tup (rgV a b))) := fun a b ea eb => by
    subst ea eb
    exact ⟨rg_ok c, fun q hq => Out.mkT s1 (rg_rep _ _) hq h⟩
  rcases range12_rep r e1 with ⟨e2, e3⟩ | e2
  · exact .inl ⟨_, e2, fin 0 _ e3.symm rfl⟩
  · exact .inr ⟨_, _, e2, fin _ _ rfl rfl⟩
/-! ### tests -/
theorem l_tv {c : C} {e : Expr} (he : PE X e (rdC X Φ k E c)) (hp : ∀ whole, isTrue e X.env whole = (do let v ← whole; standAt e.pos; holding [v] (truthy v))) : PT X e (rdT X Φ k E (.v c)) := by
  refine PT.wk (pt_truth he hp) ?_
  rintro σ H Q ⟨Z, α, S, γ, s, er, h⟩
  simp only [evT] at h
  refine ⟨Z, α, S, γ, s, er, h.bind.imp fun m S1 α1 H1 t1 s1 h v rv => ?_⟩
  obtain ⟨b, e1, h⟩ := h.of
  exact ⟨b, truth_rep s1 rv e1, h.now s1⟩
theorem truth_bl {K : PySem.W.Frag} {mg : Str → Option Value} {Z α : List Addr} {H : Hp} {S : Store} {r : M} {z : V} {Q : Bool → Hp → Prop} (s : SR K Z α H S) (rz : Rep K Z α H r z) (hz : ∃ b, r = .bl b) (h : Out K Z mg E (.of (truth S r) fun b => .ok b S) α H fun b _ _ H' => Q b H') : ∃ b, z = .bl b ∧ Q b H := by
  obtain ⟨b, rfl⟩ := hz
  exact ⟨b, rep_bl rz, h.now s⟩
theorem cmp_isbl {o : Cop} {m n : M} {S : Store} {K : PySem.W.Frag} {mg : Str → Option Value} {Z α : List Addr} {H : Hp} {P : M → Store → List Addr → Hp → Prop} (h : Out K Z mg E (cmpop o m n S) α H P) : Out K Z mg E (cmpop o m n S) α H fun r S1 α1 H1 => (∃ b, r = .bl b) ∧ P r S1 α1 H1 := by
  unfold cmpop at h ⊢
  split at h <;> first
    | (obtain ⟨b, e, h⟩ := h.of; rw [e]; exact fun α' H' t s => ⟨⟨_, rfl⟩, h α' H' t s⟩)
    | exact fun α' H' t s => ⟨⟨_, rfl⟩, h α' H' t s⟩
    | exact False.elim h
    | (split at h
       · rename_i l hl
         exact fun α' H' t s => ⟨⟨_, rfl⟩, h α' H' t s⟩
       · obtain ⟨b, e, h⟩ := h.of; rw [e]; exact fun α' H' t s => ⟨⟨_, rfl⟩, h α' H' t s⟩)
theorem l_tcmp {o : Cop} {a b : C} {e f : Expr} {p : Pos} (ha : PE X e (rdC X Φ k E a)) (hb : PE X f (rdC X Φ k E b)) (hm : behindInMarks o.op f = false) : PT X (.Compare e [o.op] [f] p) (rdT X Φ k E (.v (.cmp o a b))) := by
  refine PT.wk (pt_cmpR (op_cmp o) ha hb hm) ?_
  rintro σ H Q ⟨Z, α, S, γ, s, er, h⟩
  simp only [evT, ev] at h
  refine ⟨Z, α, S, γ, s, er, h.bind.bind.imp fun m S1 α1 H1 t1 s1 h v rv => ⟨Z, α1, S1, γ, s1, er.tr s.muts t1, h.bind.imp fun n S2 α2 H2 t2 s2 h u ru => ?_⟩⟩
  refine cmp_out s2 (Rep.tr s1.muts t2 _ _ rv) ru ((cmp_isbl h).imp fun r S3 α3 H3 t3 s3 h z rz => ?_)
  exact truth_bl s3 rz h.1 h.2
end
end Mi

namespace Mi
open PySem PySem.Spec L2 PyProof.Rows
section
variable {X : Cx} {a b c d : Expr} {ta tb tc td : TE} {pos : Pos}
/-- a op b op' c op'' d -/
def tChain3 (r r' r'' : R2) (ta tb tc td : TE) : TE := fun σ H Q => ta σ H fun x H1 => tb σ H1 fun y H2 => r x y H2 fun z H3 => ∃ k, z = .bl k ∧
  (if k = true then tc σ H3 fun u H4 => r' y u H4 fun z' H5 => ∃ k', z' = .bl k' ∧ (if k' = true then td σ H5 fun w H6 => r'' u w H6 Q else Q (.bl false) H5) else Q (.bl false) H3)
theorem pe_chain3 {op op' op'' : CmpOp} {r r' r'' : R2} (ho : OpR X (compareOp op) r) (ho' : OpR X (compareOp op') r') (ho'' : OpR X (compareOp op'') r'') (ha : PE X a ta) (hb : PE X b tb) (hc : PE X c tc) (hd : PE X d td)
    (hm : lastMarks [op, op', op''] [b, c, d] = false) : PE X (.Compare a [op, op', op''] [b, c, d] pos) (tChain3 r r' r'' ta tb tc td) := by
  refine ⟨fun pins s σ H Q I h => ?_⟩
  refine Compare_chain (thn (ha.run pins s σ H _ I h) fun v s1 ⟨x, H1, I1, r1, q1⟩ => chain_link (thn (hb.run pins s1 σ H1 _ I1 q1) fun u s2 ⟨y, H2, I2, r2, q2⟩ =>
    thn (ho pins s2 σ H2 x y v u _ I2 r1 r2 q2) fun dd s3 ⟨z, H3, I3, r3, k, e, q3⟩ => ?_)) hm
  subst e
  cases r3
  refine wpAny_truthy_bool ?_
  cases k with
  | false => exact ite_ff ⟨.bl false, H3, I3, rfl, q3⟩
  | true =>
    refine ite_tt (chain_link (thn (hc.run pins s3 σ H3 _ I3 q3) fun w' s4 ⟨z', H4, I4, r4, q4⟩ => thn (ho' pins s4 σ H4 y z' u w' _ I4 r2 r4 q4) fun dd s5 ⟨z5, H5, I5, r5, k', e, q5⟩ => ?_))
    subst e
    cases r5
    refine wpAny_truthy_bool ?_
    cases k' with
    | false => exact ite_ff ⟨.bl false, H5, I5, rfl, q5⟩
    | true => exact ite_tt (chain_last (thn (hd.run pins s5 σ H5 _ I5 q5) fun w6 s6 ⟨z6, H6, I6, r6, q6⟩ => ho'' pins s6 σ H6 z' z6 w' w6 Q I6 r4 r6 q6))
theorem pt_chain3 {op op' op'' : CmpOp} {r r' r'' : R2} (ho : OpR X (compareOp op) r) (ho' : OpR X (compareOp op') r') (ho'' : OpR X (compareOp op'') r'') (ha : PE X a ta) (hb : PE X b tb) (hc : PE X c tc) (hd : PE X d td)
    (hm : lastMarks [op, op', op''] [b, c, d] = false) : PT X (.Compare a [op, op', op''] [b, c, d] pos) (tTest (tChain3 r r' r'' ta tb tc td)) := by
  refine ⟨fun pins s σ H Q I h => ?_⟩
  refine isTrue_chain (thn (ha.run pins s σ H _ I h) fun v s1 ⟨x, H1, I1, r1, q1⟩ => test_link (thn (hb.run pins s1 σ H1 _ I1 q1) fun u s2 ⟨y, H2, I2, r2, q2⟩ =>
    thn (ho pins s2 σ H2 x y v u _ I2 r1 r2 q2) fun dd s3 ⟨z, H3, I3, r3, k, e, q3⟩ => ?_)) hm
  subst e
  cases r3
  refine wpAny_truthy_bool ?_
  cases k with
  | false =>
    obtain ⟨k', e', q'⟩ := q3
    cases e'
    exact ite_ff ⟨H3, I3, q'⟩
  | true =>
    refine ite_tt (test_link (thn (hc.run pins s3 σ H3 _ I3 q3) fun w' s4 ⟨z', H4, I4, r4, q4⟩ => thn (ho' pins s4 σ H4 y z' u w' _ I4 r2 r4 q4) fun d' s5 ⟨z2, H5, I5, r5, k2, e2, q5⟩ => ?_))
    subst e2
    cases r5
    refine wpAny_truthy_bool ?_
    cases k2 with
    | false =>
      obtain ⟨k', e', q'⟩ := q5
      cases e'
      exact ite_ff ⟨H5, I5, q'⟩
    | true =>
      refine ite_tt (test_last (thn (hd.run pins s5 σ H5 _ I5 q5) fun w6 s6 ⟨z6, H6, I6, r6, q6⟩ => thn (ho'' pins s6 σ H6 z' z6 w' w6 _ I6 r4 r6 q6) fun d7 s7 ⟨z7, H7, I7, r7, k7, e7, q7⟩ => ?_))
      subst e7
      cases r7
      exact wpAny_truthy_bool ⟨H7, I7, q7⟩
end
section
variable [Tabs]
variable {Φ : Tx} {x : SX} {X : Cx} {CX : CXT} {k : Nat} {E : XK}
theorem l_chain3 {o o' o'' : Cop} {a b c d : C} {e f g h' : Expr} {p : Pos} (ha : PE X e (rdC X Φ k E a)) (hb : PE X f (rdC X Φ k E b)) (hc : PE X g (rdC X Φ k E c)) (hd : PE X h' (rdC X Φ k E d)) (hm : behindInMarks o''.op h' = false) :
    PE X (.Compare e [o.op, o'.op, o''.op] [f, g, h'] p) (rdC X Φ k E (.chain3 o o' o'' a b c d)) := by
  refine PE.wk (pe_chain3 (op_cmp o) (op_cmp o') (op_cmp o'') ha hb hc hd (show lastMarks [o.op, o'.op, o''.op] [f, g, h'] = false from hm)) ?_
  rintro σ H Q ⟨Z, α, S, γ, s, er, h⟩
  simp only [ev] at h
  refine ⟨Z, α, S, γ, s, er, h.bind.imp fun m S1 α1 H1 t1 s1 h v rv => ⟨Z, α1, S1, γ, s1, er.tr s.muts t1, h.bind.imp fun n S2 α2 H2 t2 s2 h u ru => ?_⟩⟩
  refine cmp_out s2 (Rep.tr s1.muts t2 _ _ rv) ru (h.bind.imp fun r S3 α3 H3 t3 s3 h z rz => ?_)
  split at h
  · refine ⟨true, rep_bl rz, ?_⟩
    rw [if_pos rfl]
    have er3 := (er.tr s.muts t1).tr s1.muts (t2.trans t3)
    refine ⟨Z, α3, S3, γ, s3, er3, h.bind.imp fun w S4 α4 H4 t4 s4 h y ry => ?_⟩
    refine cmp_out s4 (Rep.tr s2.muts (t3.trans t4) _ _ ru) ry (h.bind.imp fun r S5 α5 H5 t5 s5 h z5 rz5 => ?_)
    split at h
    · refine ⟨true, rep_bl rz5, ?_⟩
      rw [if_pos rfl]
      refine ⟨Z, α5, S5, γ, s5, er3.tr s3.muts (t4.trans t5), h.bind.imp fun w6 S6 α6 H6 t6 s6 h y6 ry6 => ?_⟩
      exact cmp_out s6 (Rep.tr s4.muts (t5.trans t6) _ _ ry) ry6 h
    · refine ⟨false, rep_bl rz5, ?_⟩
      rw [if_neg Bool.false_ne_true]
      exact out_bl s5 h
    · exact False.elim h
  · refine ⟨false, rep_bl rz, ?_⟩
    rw [if_neg Bool.false_ne_true]
    exact out_bl s3 h
  · exact False.elim h
theorem l_cst {s : String} {i : Int} {n : Str} {p : Pos} (g : Good Φ x X CX k E) (hn : n = Str.ofString s) (hg : x.gl n = true) (hp : plainN n = true) (hc : Φ.cs s = some (.int i)) : PE X (.Name n p) (rdC X Φ k E (.cst s i)) := by
  subst hn
  obtain ⟨u, hm, r⟩ := g.cst s (.int i) hc
  refine PE.wk (pe_glob (g.gl hg) hm r (plainN_of hp).1) ?_
  rintro σ H Q ⟨Z, α, S, γ, s, er, h⟩
  simp only [ev] at h
  exact out_int s h
theorem l_cstS {s t : String} {n : Str} {p : Pos} (g : Good Φ x X CX k E) (hn : n = Str.ofString s) (hg : x.gl n = true) (hp : plainN n = true) (hc : Φ.cs s = some (.str t)) : PE X (.Name n p) (rdC X Φ k E (.cstS s t)) := by
  subst hn
  obtain ⟨u, hm, r⟩ := g.cst s (.str t) hc
  refine PE.wk (pe_glob (g.gl hg) hm r (plainN_of hp).1) ?_
  rintro σ H Q ⟨Z, α, S, γ, s, er, h⟩
  simp only [ev] at h
  exact out_str s h
end
end Mi

namespace Mi
open PySem PySem.Spec L2
variable [Tabs]

section
variable {Φ : Tx} {x : SX} {X : Cx} {CX : CXT} {k : Nat} {E : XK}
theorem l_tchain {o o' : Cop} {a b c : C} {e f d : Expr} {p : Pos} (ha : PE X e (rdC X Φ k E a)) (hb : PE X f (rdC X Φ k E b)) (hc : PE X d (rdC X Φ k E c)) (hm : behindInMarks o'.op d = false) :
    PT X (.Compare e [o.op, o'.op] [f, d] p) (rdT X Φ k E (.v (.chain o o' a b c))) := by
  refine PT.wk (pt_chain (op_cmp o) (op_cmp o') ha hb hc (show lastMarks [o.op, o'.op] [f, d] = false from hm)) ?_
  rintro σ H Q ⟨Z, α, S, γ, s, er, h⟩
  simp only [evT, ev] at h
  refine ⟨Z, α, S, γ, s, er, h.bind.bind.imp fun m S1 α1 H1 t1 s1 h v rv => ⟨Z, α1, S1, γ, s1, er.tr s.muts t1, h.bind.imp fun n S2 α2 H2 t2 s2 h u ru => ?_⟩⟩
  refine cmp_out s2 (Rep.tr s1.muts t2 _ _ rv) ru (h.bind.imp fun r S3 α3 H3 t3 s3 h z rz => ?_)
  split at h
  · refine ⟨true, rep_bl rz, ?_⟩
    rw [if_pos rfl]
    refine ⟨Z, α3, S3, γ, s3, (er.tr s.muts t1).tr s1.muts (t2.trans t3), h.bind.imp fun w S4 α4 H4 t4 s4 h y ry => ?_⟩
    refine cmp_out s4 (Rep.tr s2.muts (t3.trans t4) _ _ ru) ry ((cmp_isbl h).imp fun r S5 α5 H5 t5 s5 h z rz => ?_)
    exact truth_bl s5 rz h.1 h.2
  · refine ⟨false, rep_bl rz, ?_⟩
    rw [if_neg Bool.false_ne_true]
    exact ⟨false, rfl, Out.now (a := false) s3 (h.now s3)⟩
  · exact False.elim h
theorem l_tchain3 {o o' o'' : Cop} {a b c d : C} {e f g h' : Expr} {p : Pos} (ha : PE X e (rdC X Φ k E a)) (hb : PE X f (rdC X Φ k E b)) (hc : PE X g (rdC X Φ k E c)) (hd : PE X h' (rdC X Φ k E d)) (hm : behindInMarks o''.op h' = false) :
    PT X (.Compare e [o.op, o'.op, o''.op] [f, g, h'] p) (rdT X Φ k E (.v (.chain3 o o' o'' a b c d))) := by
  refine PT.wk (pt_chain3 (op_cmp o) (op_cmp o') (op_cmp o'') ha hb hc hd (show lastMarks [o.op, o'.op, o''.op] [f, g, h'] = false from hm)) ?_
  rintro σ H Q ⟨Z, α, S, γ, s, er, h⟩
  simp only [evT, ev] at h
  refine ⟨Z, α, S, γ, s, er, h.bind.bind.imp fun m S1 α1 H1 t1 s1 h v rv => ⟨Z, α1, S1, γ, s1, er.tr s.muts t1, h.bind.imp fun n S2 α2 H2 t2 s2 h u ru => ?_⟩⟩
  refine cmp_out s2 (Rep.tr s1.muts t2 _ _ rv) ru (h.bind.imp fun r S3 α3 H3 t3 s3 h z rz => ?_)
  split at h
  · refine ⟨true, rep_bl rz, ?_⟩
    rw [if_pos rfl]
    have er3 := (er.tr s.muts t1).tr s1.muts (t2.trans t3)
    refine ⟨Z, α3, S3, γ, s3, er3, h.bind.imp fun w S4 α4 H4 t4 s4 h y ry => ?_⟩
    refine cmp_out s4 (Rep.tr s2.muts (t3.trans t4) _ _ ru) ry (h.bind.imp fun r S5 α5 H5 t5 s5 h z5 rz5 => ?_)
    split at h
    · refine ⟨true, rep_bl rz5, ?_⟩
      rw [if_pos rfl]
      refine ⟨Z, α5, S5, γ, s5, er3.tr s3.muts (t4.trans t5), h.bind.imp fun w6 S6 α6 H6 t6 s6 h y6 ry6 => ?_⟩
      refine cmp_out s6 (Rep.tr s4.muts (t5.trans t6) _ _ ry) ry6 ((cmp_isbl h).imp fun r S7 α7 H7 t7 s7 h z rz => ?_)
      exact truth_bl s7 rz h.1 h.2
    · refine ⟨false, rep_bl rz5, ?_⟩
      rw [if_neg Bool.false_ne_true]
      exact ⟨false, rfl, Out.now (a := false) s5 (h.now s5)⟩
    · exact False.elim h
  · refine ⟨false, rep_bl rz, ?_⟩
    rw [if_neg Bool.false_ne_true]
    exact ⟨false, rfl, Out.now (a := false) s3 (h.now s3)⟩
  · exact False.elim h
theorem l_tand {a b : T} {e f : Expr} {fs : List Expr} {p : Pos} (ha : PT X e (rdT X Φ k E a)) (hb : PW X (.BoolOp .And (f :: fs) p) (rdT X Φ k E b)) : PW X (.BoolOp .And (e :: f :: fs) p) (rdT X Φ k E (.and a b)) := by
  refine PW.wk (pw_and ha hb) ?_
  rintro σ H Q ⟨Z, α, S, γ, s, er, h⟩
  simp only [evT] at h
  refine ⟨Z, α, S, γ, s, er, h.bind.imp fun m S1 α1 H1 t1 s1 h => ?_⟩
  cases m with
  | true => rw [if_pos rfl] at h ⊢; exact ⟨Z, α1, S1, γ, s1, er.tr s.muts t1, h⟩
  | false => rw [if_neg Bool.false_ne_true] at h ⊢; exact h.now s1
theorem l_tor {a b : T} {e f : Expr} {fs : List Expr} {p : Pos} (ha : PT X e (rdT X Φ k E a)) (hb : PW X (.BoolOp .Or (f :: fs) p) (rdT X Φ k E b)) : PW X (.BoolOp .Or (e :: f :: fs) p) (rdT X Φ k E (.or a b)) := by
  refine PW.wk (pw_or ha hb) ?_
  rintro σ H Q ⟨Z, α, S, γ, s, er, h⟩
  simp only [evT] at h
  refine ⟨Z, α, S, γ, s, er, h.bind.imp fun m S1 α1 H1 t1 s1 h => ?_⟩
  cases m with
  | true => rw [if_pos rfl] at h ⊢; exact h.now s1
  | false => rw [if_neg Bool.false_ne_true] at h ⊢; exact ⟨Z, α1, S1, γ, s1, er.tr s.muts t1, h⟩
theorem l_tone {a : T} {o : BoolOp} {e : Expr} {p : Pos} (ha : PT X e (rdT X Φ k E a)) : PW X (.BoolOp o [e] p) (rdT X Φ k E (.one a)) := by
  have w : ∀ σ H Q, rdT X Φ k E (.one a) σ H Q → rdT X Φ k E a σ H Q := by
    rintro σ H Q ⟨Z, α, S, γ, s, er, h⟩
    simp only [evT] at h
    exact ⟨Z, α, S, γ, s, er, h⟩
  cases o with
  | And => exact PW.wk (pw_and1 ha) w
  | Or => exact PW.wk (pw_or1 ha) w
theorem l_tnot {a : T} {e : Expr} {p : Pos} (ha : PT X e (rdT X Φ k E a)) : PT X (.UnaryOp .Not e p) (rdT X Φ k E (.not a)) := by
  refine PT.wk (pt_not ha) ?_
  rintro σ H Q ⟨Z, α, S, γ, s, er, h⟩
  simp only [evT] at h
  exact ⟨Z, α, S, γ, s, er, h.bind.imp fun m S1 α1 H1 t1 s1 h => h.now s1⟩
/-! ### calls with keywords -/
theorem place_rep {K : PySem.W.Frag} {Z α : List Addr} {H : Hp} {ms ns : List M} {xs ys : List V} (qs : List Nat) (r : RepL K Z α H ms xs) (r' : RepL K Z α H ns ys) : RepL K Z α H (place qs ms ns) (place qs xs ys) := by
  unfold place
  refine r.append ?_
  induction qs with
  | nil => simp only [List.filterMap_nil, RepL]
  | cons q qs ih =>
    rw [List.filterMap_cons, List.filterMap_cons]
    cases e : ns[q]? with
    | none =>
      have : ys[q]? = none := by
        rw [List.getElem?_eq_none_iff] at e ⊢
        rw [← r'.length]; exact e
      rw [this]; exact ih
    | some m =>
      obtain ⟨y, e1, e2⟩ := r'.get e
      rw [e1]
      simp only [RepL]
      exact ⟨y, _, rfl, e2, ih⟩
theorem pe_callK0 {f : Addr} {fd : FuncData} {ps ks : List Str} {sp : Sp} {n : Str} {p pos : Pos} {kws : List Keyword} {tk : TA} {g : List Value → List Value → List Value} {gV : List V → List V → List V} {kk : Nat}
    (F : FnOk X.prog X.w X.K X.mg X.base CX kk f fd ps sp) (hr : Room kk X.A) (hg : Gl X n) (hm : X.mg n = some (.ref f)) (hk : PySem.W.keepIn X.K (.ref f) = true) (hb : KBinds X.K fd ps ks g gV) (hx : Passes CX X E)
    (hkw : PK X kws tk) (hall : (backToKw pos (keywordEach kws X.env)).all (·.1.isSome) = true) (hks : (backToKw pos (keywordEach kws X.env)).filterMap (·.1) = ks) (hdb : (n == ("__debug__" : Str)) = false)
    (hpl : ((backTo pos (starEach [] X.env)).any (·.1) || (backToKw pos (keywordEach kws X.env)).any (·.1.isNone)) = false) :
    PE X (.Call (.Name n p) [] kws pos) (tCallK sp gV E tNil tk) := by
  refine ⟨fun pins s σ H Q I h => ?_⟩
  refine wpAny_Call_Name_kw (ld_glob I hg hm ?_ hdb)
  refine PySem.W.callWith_KW0 (h₀ := X.base) I.ok.mod.kin hk hall (thn (hkw.run pos pins s σ H _ I h) fun ws s2 ⟨zs, H2, I2, rz, q2⟩ => ⟨I2.kIn, ?_⟩) hpl
  rw [hks]
  exact run_fnk (us := []) (vs := []) F hr hb hx I2 .nil rz q2
theorem kw_names : ∀ (kws : List Keyword) (pos : Pos) (env : PySem.Env), (backToKw pos (keywordEach kws env)).map (·.1) = kws.map (·.arg)
  | [], _, _ => rfl
  | ⟨n, v, p⟩ :: kws, pos, env => by
    show n :: (backToKw pos (keywordEach kws env)).map (·.1) = n :: kws.map (·.arg)
    rw [kw_names kws]
theorem names_some {l : List (Option Str × Sem Value)} {ns : List Str} (h : l.map (·.1) = ns.map some) : l.all (·.1.isSome) = true ∧ l.filterMap (·.1) = ns ∧ l.any (·.1.isNone) = false := by
  induction l generalizing ns with
  | nil =>
    cases ns with
    | nil => exact ⟨rfl, rfl, rfl⟩
    | cons n ns => cases h
  | cons a l ih =>
    cases ns with
    | nil => cases h
    | cons n ns =>
      obtain ⟨a1, a2⟩ := a
      simp only [List.map_cons, List.cons.injEq] at h
      obtain ⟨rfl, h2⟩ := h
      obtain ⟨i1, i2, i3⟩ := ih h2
      exact ⟨by rw [List.all_cons, i1]; rfl, by rw [List.filterMap_cons, i2], by rw [List.any_cons, i3]; rfl⟩
theorem l_callk {pu : Bool} {f : String} {d : Fn} {es kes : Cs} {qs : List Nat} {n : Str} {l : List Expr} {kws : List Keyword} {p q : Pos} (g : Good Φ x X CX k E) (hd : Φ f = some d) (hn : n = Str.ofString f) (hg : x.gl n = true) (hp : plainN n = true)
    (ha : PA X l (rdCs X Φ k E es)) (ho : AllOdd l) (hnil : l = [] → es = .nil) (hkw : PK X kws (rdCs X Φ k E kes)) (hin : (es.len, qs) ∈ d.kw) (hns : kws.map (·.arg) = (ksOf d es.len qs).map fun s => some (Str.ofString s)) :
    PE X (.Call (.Name n p) l kws q) (rdC X Φ k E (.callk pu f es qs kes)) := by
  subst hn
  obtain ⟨a, fd, hm, hk, F, hb, hkb⟩ := g.fns f d hd
  have KB := hkb _ _ hin
  have main : ∀ σ H Q, rdC X Φ k E (.callk pu f es qs kes) σ H Q → tCallK (spM X.K X.mg d.ps.length (evalFn Φ k f)) (placeN es.len qs) E (rdCs X Φ k E es) (rdCs X Φ k E kes) σ H Q := by
    rintro σ H Q ⟨Z, α, S, γ, s, er, h⟩
    simp only [ev] at h
    refine ⟨Z, α, S, γ, s, er, h.bind.imp fun ms S1 α1 H1 t1 s1 h vs r => ⟨Z, α1, S1, γ, s1, er.tr s.muts t1, h.bind.imp fun ns S2 α2 H2 t2 s2 h us ru => ?_⟩⟩
    have pr := place_rep qs (RepL.tr s1.muts t2 _ _ r) ru
    obtain ⟨c, h⟩ := h.when
    show spM X.K X.mg d.ps.length (evalFn Φ k f) (placeN es.len qs vs us) H2 Q E
    rw [show placeN es.len qs vs us = place qs vs us from if_pos ⟨by rw [← r.length]; exact c.1, by rw [← ru.length]; exact c.2⟩]
    exact call_out s2 pr (by rw [← pr.length]; exact callM_len hd h) h
  have e1 : (backToKw q (keywordEach kws X.env)).map (·.1) = ((ksOf d es.len qs).map Str.ofString).map some := by rw [kw_names, hns, List.map_map]; rfl
  obtain ⟨n1, n2, n3⟩ := names_some e1
  cases l with
  | nil =>
    cases hnil rfl
    refine PE.wk (pe_callK0 F g.room (g.gl hg) hm hk KB g.pass hkw n1 n2 (plainN_of hp).1 (by rw [n3]; rfl)) fun σ H Q h => ?_
    obtain ⟨Z2, α2, S2, γ2, s2, er2, h2⟩ := main σ H Q h
    simp only [evs] at h2
    exact h2.now s2 [] (by simp only [RepL])
  | cons e es' =>
    have hs := odd_star (ho e List.mem_cons_self) es' X.env
    exact PE.wk (pe_callK F g.room (g.gl hg) hm hk KB g.pass ha hkw n1 n2 (plainN_of hp).1 hs (by rw [n3, stars_off ho]; rfl)) main
theorem l_knil : PK X [] (rdCs X Φ k E .nil) := by
  refine ⟨fun pos pins s σ H Q I h => pk_nil.run pos pins s σ H Q I ?_⟩
  obtain ⟨Z, α, S, γ, s, er, h⟩ := h
  simp only [evs] at h
  exact h.now s [] (by simp only [RepL])
theorem l_kcons {a : C} {r : Cs} {n : Option Str} {e : Expr} {p : Pos} {es : List Keyword} (ha : PE X e (rdC X Φ k E a)) (hr : PK X es (rdCs X Φ k E r)) : PK X (⟨n, e, p⟩ :: es) (rdCs X Φ k E (.cons a r)) := by
  refine ⟨fun pos pins s σ H Q I h => (pk_cons ha hr).run pos pins s σ H Q I ?_⟩
  obtain ⟨Z, α, S, γ, s, er, h⟩ := h
  simp only [evs] at h
  refine ⟨Z, α, S, γ, s, er, h.bind.imp fun m S1 α1 H1 t1 s1 h v rv => ⟨Z, α1, S1, γ, s1, er.tr s.muts t1, h.bind.imp fun ms S2 α2 H2 t2 s2 h us ru => ?_⟩⟩
  exact h.now s2 (v :: us) (by simp only [RepL]; exact ⟨v, us, rfl, Rep.tr s1.muts t2 _ _ rv, ru⟩)
end
end Mi

namespace Mi
open PySem PySem.Spec L2
variable [Tabs]

/-! ### reserved addresses -/
def ZT (Z : List Addr) (H : Hp) (Z' : List Addr) : Prop := ∀ a ∈ Z', a ∈ Z ∨ H a = none
/-- a reserved object changes: nobody sees it -/
def Quiet : HO → Prop
  | .tup _ => False
  | .frz _ _ => False
  | .tbl _ => False
  | _ => True
/-- as Tr, but a reserved object may change -/
structure TrQ (Z α : List Addr) (H : Hp) (α' : List Addr) (H' : Hp) : Prop where
  keep : ∀ a o, H a = some o → a ∉ α → NoTb o → (a ∉ Z ∨ ¬ Quiet o) → H' a = some o
  ext : ∃ β, α' = α ++ β ∧ ∀ a ∈ β, H a = none
  live : ∀ a ∈ α', H' a ≠ none
  still : ∀ a, H a ≠ none → H' a ≠ none
section
variable {K : PySem.W.Frag} {Z Z' α α' α'' : List Addr} {H H' H'' : Hp} {S : Store}
omit [Tabs] in
theorem Tr.q (t : Tr α H α' H') : TrQ Z α H α' H' := ⟨fun a o h n nt _ => t.keep a o h n nt, t.ext, t.live, fun a h => by
  by_cases n : a ∈ α
  · obtain ⟨β, e, _⟩ := t.ext
    exact t.live a (by rw [e]; exact List.mem_append_left _ n)
  · exact t.still h n⟩
omit [Tabs] in
theorem TrQ.trans (q : TrQ Z α H α' H') (t : Tr α' H' α'' H'') : TrQ Z α H α'' H'' := by
  obtain ⟨β, e, hβ⟩ := q.ext
  obtain ⟨β', e', hβ'⟩ := t.ext
  refine ⟨fun a o h n nt z => t.keep a o (q.keep a o h n nt z) (fun hm => ?_) nt, ⟨β ++ β', by rw [e', e, List.append_assoc], fun a ha => ?_⟩, t.live, fun a h => (Tr.q (Z := Z) t).still a (q.still a h)⟩
  · rw [e] at hm
    rcases List.mem_append.mp hm with z | z
    · exact n z
    · rw [hβ a z] at h; cases h
  · rcases List.mem_append.mp ha with z | z
    · exact hβ a z
    · have n := hβ' a z
      cases w : H a with
      | none => rfl
      | some o => exact absurd n (q.still a (by rw [w]; exact fun z => by cases z))
omit [Tabs] in
theorem TrQ.off {D : Addr} {o u : HO} (q : TrQ Z α H α' H') (hz : D ∈ Z) (hD : H D = some u) (hq : Quiet u) (hn : NoTb u) : TrQ Z α H α' (upd H' D o) := by
  refine ⟨fun a w h n nt z => ?_, q.ext, fun a ha => ?_, fun a ha => ?_⟩
  · have : a ≠ D := fun e => by
      rw [e, hD] at h
      cases h
      rcases z with z | z
      · exact z (by rw [e]; exact hz)
      · exact z hq
    rw [upd_ne this]
    exact q.keep a w h n nt z
  · by_cases e : a = D
    · rw [e, upd_same]; exact fun z => by cases z
    · rw [upd_ne e]; exact q.live a ha
  · by_cases e : a = D
    · rw [e, upd_same]; exact fun z => by cases z
    · rw [upd_ne e]; exact q.still a ha
section
omit [Tabs]
theorem mut_ne {a : Addr} {o : HO} [Tabs] (l : Muts α H) (h : H a = some o) (n : ¬ MutO o) : a ∉ α := fun hm => by
  obtain ⟨u, e, m⟩ := l a hm
  rw [h] at e
  cases e
  exact n m
end
theorem sqT_q {a : Addr} {xs : List V} (l : Muts α H) (t : TrQ Z α H α' H') (h : SqT K H a xs) : SqT K H' a xs := by
  rcases h with (h | ⟨o, h⟩) | h
  · exact .inl (.inl (t.keep _ _ h (mut_ne l h (fun z => z)) trivial (.inr fun z => z)))
  · exact .inl (.inr ⟨o, t.keep _ _ h (mut_ne l h (fun z => z)) trivial (.inr fun z => z)⟩)
  · exact .inr h
omit [Tabs] in
theorem notin_q {a : Addr} {o : HO} (t : TrQ Z α H α' H') (h : H a = some o) (n : a ∉ α) : a ∉ α' := by
  obtain ⟨β, e, hβ⟩ := t.ext
  rw [e]
  intro hm
  rcases List.mem_append.mp hm with z | z
  · exact n z
  · rw [hβ a z] at h; cases h
omit [Tabs] in
theorem get_q {n : Nat} {a : Addr} (t : TrQ Z α H α' H') (h : α[n]? = some a) : α'[n]? = some a := by
  obtain ⟨β, e, hβ⟩ := t.ext
  rw [e, List.getElem?_append_left (List.getElem?_eq_some_iff.mp h).1]
  exact h
mutual
theorem Rep.trQ (l : Muts α H) (t : TrQ Z α H α' H') (z : ZT Z H Z') : ∀ (m : M) (v : V), Rep K Z α H m v → Rep K Z' α' H' m v
  | .non, v, h => by simpa only [Rep] using h
  | .bl b, v, h => by simpa only [Rep] using h
  | .int i, v, h => by simpa only [Rep] using h
  | .str s, v, h => by simpa only [Rep] using h
  | .scr ns, v, h => by
    simp only [Rep] at h ⊢
    obtain ⟨a, e, h⟩ := h
    rcases h with h | ⟨h, n⟩
    · exact ⟨a, e, .inl (h.imp (fun ⟨o, h⟩ => ⟨o, t.keep _ _ h (mut_ne l h (fun z => z)) trivial (.inr fun z => z)⟩) id)⟩
    · refine ⟨a, e, .inr ⟨t.keep _ _ h n.1 trivial (.inl n.2), ⟨notin_q t h n.1, fun hz => ?_⟩⟩⟩
      rcases z a hz with q | q
      · exact n.2 q
      · rw [h] at q; cases q
  | .ref n, v, h => by
    simp only [Rep] at h ⊢
    obtain ⟨a, h, e⟩ := h
    exact ⟨a, get_q t h, e⟩
  | .tup ms, v, h => by
    simp only [Rep] at h ⊢
    obtain ⟨a, xs, e, h, r⟩ := h
    exact ⟨a, xs, e, sqT_q l t h, RepL.trQ l t z ms xs r⟩
  | .lst ms, v, h => by
    simp only [Rep] at h ⊢
    obtain ⟨a, xs, e, h, n, r⟩ := h
    refine ⟨a, xs, e, t.keep _ _ h n.1 trivial (.inl n.2), ⟨notin_q t h n.1, fun hz => ?_⟩, RepL.trQ l t z ms xs r⟩
    rcases z a hz with q | q
    · exact n.2 q
    · rw [h] at q; cases q
theorem RepL.trQ (l : Muts α H) (t : TrQ Z α H α' H') (z : ZT Z H Z') : ∀ (ms : List M) (xs : List V), RepL K Z α H ms xs → RepL K Z' α' H' ms xs
  | [], xs, h => by simpa only [RepL] using h
  | m :: ms, xs, h => by
    simp only [RepL] at h ⊢
    obtain ⟨x, r, e, h, q⟩ := h
    exact ⟨x, r, e, Rep.trQ l t z m x h, RepL.trQ l t z ms r q⟩
end
theorem Rep.trZ (l : Muts α H) (t : Tr α H α' H') (z : ZT Z H Z') (m : M) (v : V) (h : Rep K Z α H m v) : Rep K Z' α' H' m v := Rep.trQ l t.q z m v h
theorem RepL.trZ (l : Muts α H) (t : Tr α H α' H') (z : ZT Z H Z') (ms : List M) (xs : List V) (h : RepL K Z α H ms xs) : RepL K Z' α' H' ms xs := RepL.trQ l t.q z ms xs h
theorem ER.trZ {γ : Env} {σ : Slots} (l : Muts α H) (t : Tr α H α' H') (z : ZT Z H Z') (e : ER K Z α H γ σ) : ER K Z' α' H' γ σ :=
  ⟨e.len, fun i m h => let ⟨v, h1, h2⟩ := e.get i m h; ⟨v, h1, Rep.trZ l t z m v h2⟩⟩
theorem ZT.refl : ZT Z H Z := fun a h => .inl h
theorem ZT.cons {D : Addr} (h : H D = none) : ZT Z H (D :: Z) := fun a ha => by
  rcases List.mem_cons.mp ha with rfl | ha
  · exact .inr h
  · exact .inl ha
/-- a new object that is reserved -/
theorem SR.reserve {D : Addr} {o : HO} (s : SR K Z α H S) (hD : H D = none) : SR K (D :: Z) α (upd H D o) S := by
  have t := Tr.new (o := o) s hD
  have s1 := s.new (o := o) hD
  refine ⟨s.nd, s.len, fun n u e => ?_, fun a ha => ?_, s1.tb⟩
  · obtain ⟨a, ha, ob⟩ := s.obj n u e
    refine ⟨a, ha, ?_⟩
    have hm : a ∈ α := List.mem_of_getElem? ha
    obtain ⟨w, hw, _⟩ := s.muts a hm
    exact ob.map (RepL.trZ s.muts t (ZT.cons hD)) (upd_ne (ne_of_none hw hD))
  · rcases List.mem_cons.mp ha with rfl | ha
    · exact ⟨(notin_new s hD).1, by rw [upd_same]; exact fun z => by cases z⟩
    · exact s1.zs a ha
mutual
theorem Rep.sub (z : ∀ a ∈ Z', a ∈ Z) : ∀ (m : M) (v : V), Rep K Z α H m v → Rep K Z' α H m v
  | .non, v, h => by simpa only [Rep] using h
  | .bl b, v, h => by simpa only [Rep] using h
  | .int i, v, h => by simpa only [Rep] using h
  | .str s, v, h => by simpa only [Rep] using h
  | .scr ns, v, h => by
    simp only [Rep] at h ⊢
    obtain ⟨a, e, h⟩ := h
    exact ⟨a, e, h.imp id fun ⟨h, n⟩ => ⟨h, n.1, fun hz => n.2 (z a hz)⟩⟩
  | .ref n, v, h => by simpa only [Rep] using h
  | .tup ms, v, h => by
    simp only [Rep] at h ⊢
    obtain ⟨a, xs, e, h, r⟩ := h
    exact ⟨a, xs, e, h, RepL.sub z ms xs r⟩
  | .lst ms, v, h => by
    simp only [Rep] at h ⊢
    obtain ⟨a, xs, e, h, n, r⟩ := h
    exact ⟨a, xs, e, h, ⟨n.1, fun hz => n.2 (z a hz)⟩, RepL.sub z ms xs r⟩
theorem RepL.sub (z : ∀ a ∈ Z', a ∈ Z) : ∀ (ms : List M) (xs : List V), RepL K Z α H ms xs → RepL K Z' α H ms xs
  | [], xs, h => by simpa only [RepL] using h
  | m :: ms, xs, h => by
    simp only [RepL] at h ⊢
    obtain ⟨x, r, e, h, q⟩ := h
    exact ⟨x, r, e, Rep.sub z m x h, RepL.sub z ms r q⟩
end
theorem SR.sub (z : ∀ a ∈ Z', a ∈ Z) (s : SR K Z α H S) : SR K Z' α H S := by
  refine ⟨s.nd, s.len, fun n u e => ?_, fun a ha => s.zs a (z a ha), s.tb⟩
  obtain ⟨a, ha, ob⟩ := s.obj n u e
  refine ⟨a, ha, ?_⟩
  exact ob.map (RepL.sub z) rfl
mutual
theorem Rep.off {D : Addr} {o u : HO} (hz : D ∈ Z) (hD : H D = some u) (hq : Quiet u) : ∀ (m : M) (v : V), Rep K Z α H m v → Rep K Z α (upd H D o) m v
  | .non, v, h => by simpa only [Rep] using h
  | .bl b, v, h => by simpa only [Rep] using h
  | .int i, v, h => by simpa only [Rep] using h
  | .str s, v, h => by simpa only [Rep] using h
  | .scr ns, v, h => by
    simp only [Rep] at h ⊢
    obtain ⟨a, e, h⟩ := h
    rcases h with h | ⟨h, n⟩
    · exact ⟨a, e, .inl (h.imp (fun ⟨w, h⟩ => ⟨w, by rw [upd_ne (show a ≠ D from fun z => by rw [z, hD] at h; cases h; exact hq)]; exact h⟩) id)⟩
    · exact ⟨a, e, .inr ⟨by rw [upd_ne (show a ≠ D from fun z => n.2 (by rw [z]; exact hz))]; exact h, n⟩⟩
  | .ref n, v, h => by simpa only [Rep] using h
  | .tup ms, v, h => by
    simp only [Rep] at h ⊢
    obtain ⟨a, xs, e, h, r⟩ := h
    refine ⟨a, xs, e, ?_, RepL.off hz hD hq ms xs r⟩
    rcases h with (h | ⟨w, h⟩) | h
    · exact .inl (.inl (by rw [upd_ne (show a ≠ D from fun z => by rw [z, hD] at h; cases h; exact hq)]; exact h))
    · exact .inl (.inr ⟨w, by rw [upd_ne (show a ≠ D from fun z => by rw [z, hD] at h; cases h; exact hq)]; exact h⟩)
    · exact .inr h
  | .lst ms, v, h => by
    simp only [Rep] at h ⊢
    obtain ⟨a, xs, e, h, n, r⟩ := h
    exact ⟨a, xs, e, by rw [upd_ne (show a ≠ D from fun z => n.2 (by rw [z]; exact hz))]; exact h, n, RepL.off hz hD hq ms xs r⟩
theorem RepL.off {D : Addr} {o u : HO} (hz : D ∈ Z) (hD : H D = some u) (hq : Quiet u) : ∀ (ms : List M) (xs : List V), RepL K Z α H ms xs → RepL K Z α (upd H D o) ms xs
  | [], xs, h => by simpa only [RepL] using h
  | m :: ms, xs, h => by
    simp only [RepL] at h ⊢
    obtain ⟨x, r, e, h, q⟩ := h
    exact ⟨x, r, e, Rep.off hz hD hq m x h, RepL.off hz hD hq ms r q⟩
end
theorem SR.off {D : Addr} {o u : HO} (hz : D ∈ Z) (hD : H D = some u) (hq : Quiet u) (s : SR K Z α H S) : SR K Z α (upd H D o) S := by
  have nD := (s.zs D hz).1
  refine ⟨s.nd, s.len, fun n w e => ?_, fun a ha => ?_, fun a ha => ?_⟩
  rotate_right
  · obtain ⟨ps, e, ok⟩ := s.tb a ha
    refine ⟨ps, ?_, ok⟩
    rw [upd_ne (show a ≠ D from fun z => by rw [← z, e] at hD; cases hD; exact hq)]
    exact e
  · obtain ⟨a, ha, ob⟩ := s.obj n w e
    refine ⟨a, ha, ?_⟩
    have hm : a ∈ α := List.mem_of_getElem? ha
    exact ob.map (RepL.off hz hD hq) (upd_ne (show a ≠ D from fun z => nD (by rw [← z]; exact hm)))
  · obtain ⟨h1, h2⟩ := s.zs a ha
    refine ⟨h1, ?_⟩
    by_cases e : a = D
    · rw [e, upd_same]; exact fun z => by cases z
    · rw [upd_ne e]; exact h2
theorem ER.off {D : Addr} {o u : HO} {γ : Env} {σ : Slots} (hz : D ∈ Z) (hD : H D = some u) (hq : Quiet u) (e : ER K Z α H γ σ) : ER K Z α (upd H D o) γ σ :=
  ⟨e.len, fun i m h => let ⟨v, h1, h2⟩ := e.get i m h; ⟨v, h1, Rep.off hz hD hq m v h2⟩⟩
theorem Tr.off {D : Addr} {o : HO} (t : Tr α H α' H') (hD : H D = none) (nD : D ∉ α') : Tr α H α' (upd H' D o) := by
  refine ⟨fun a u h hn nt => by rw [upd_ne (ne_of_none h hD)]; exact t.keep a u h hn nt, fun a ps h => by rw [upd_ne (ne_of_none h hD)]; exact t.tbl a ps h, t.ext, fun a ha => ?_⟩
  rw [upd_ne (show a ≠ D from fun z => nD (by rw [← z]; exact ha))]
  exact t.live a ha

/-! ### what is walked -/
structure WalkM (K : PySem.W.Frag) (Z : List Addr) (J : It) (s : Src) (α : List Addr) (H : Hp) : Prop where
  ex : ∃ (G : Hp → Prop) (Y : Nat → Hp → V → Hp → Prop), Walk J s.items.length G Y ∧
    (∀ Z' α' H' S', ZT Z H Z' → TrQ Z α H α' H' → SR K Z' α' H' S' → s.ok S' → G H') ∧
    (∀ Z' α' H' S' i m y H'', ZT Z H Z' → TrQ Z α H α' H' → SR K Z' α' H' S' → s.ok S' → s.items[i]? = some m → Y i H' y H'' → Tr α' H' α' H'' ∧ SR K Z' α' H'' S' ∧ Rep K Z' α' H'' m y)
theorem isTup_or (m : M) : (∃ l, m = .tup l) ∨ ∀ l, m ≠ .tup l := by
  cases m <;> first | exact .inl ⟨_, rfl⟩ | exact .inr (fun l h => by cases h)
theorem walk_of_list {m : M} {a : Addr} {ms : List M} (s : SR K Z α H S) (r : Rep K Z α H m (.ref a)) (nt : ∀ l, m ≠ .tup l) : WalkM K Z (Itl K a) ⟨ms, m, ms⟩ α H := by
  have at' : ∀ Z' α' H' S', ZT Z H Z' → TrQ Z α H α' H' → SR K Z' α' H' S' → seqOf S' m = some ms → ∃ xs, SqL K H' a xs ∧ RepL K Z' α' H' ms xs := fun Z' α' H' S' z t s' e => by
    obtain ⟨a', xs, ea, hs, q⟩ := seq_rep s' (Rep.trQ s.muts t z _ _ r) e
    cases ea
    rcases hs with ⟨hs, _⟩ | ⟨hs, em⟩
    · exact ⟨xs, hs, q⟩
    · exact absurd em (nt ms)
  refine ⟨fun H' => ∃ xs, SqL K H' a xs ∧ xs.length = ms.length, fun i H' y H'' => H'' = H' ∧ ∀ xs, SqL K H' a xs → xs[i]? = some y, ⟨fun i H' hi ⟨xs, h1, h2⟩ => ?_, fun H' ⟨xs, h1, h2⟩ => ⟨xs, h1, by rw [h2]; exact Nat.le_refl _⟩, fun i H' y H'' _ _ h => h⟩, fun Z' α' H' S' z t s' e => ?_, fun Z' α' H' S' i n y H'' z t s' e hi hy => ?_⟩
  · have hi' : i < xs.length := by rw [h2]; exact hi
    exact ⟨xs, xs[i], h1, by simp [hi']⟩
  · obtain ⟨xs, h1, h2⟩ := at' Z' α' H' S' z t s' e
    exact ⟨xs, h1, h2.length.symm⟩
  · obtain ⟨xs, h1, h2⟩ := at' Z' α' H' S' z t s' e
    obtain ⟨rfl, hy⟩ := hy
    obtain ⟨v, e1, e2⟩ := h2.get hi
    have := hy xs h1
    rw [this] at e1; cases e1
    exact ⟨Tr.refl s', s', e2⟩
theorem walk_of_tup {a : Addr} {ms : List M} (s : SR K Z α H S) (r : Rep K Z α H (.tup ms) (.ref a)) : WalkM K Z (Itt K a) ⟨ms, .tup ms, ms⟩ α H := by
  have at' : ∀ Z' α' H', ZT Z H Z' → TrQ Z α H α' H' → ∃ xs, SqT K H' a xs ∧ RepL K Z' α' H' ms xs := fun Z' α' H' z t => by
    have q := Rep.trQ s.muts t z _ _ r
    simp only [Rep] at q
    obtain ⟨a', xs, ea, hs, q⟩ := q
    cases ea
    exact ⟨xs, hs, q⟩
  refine ⟨fun H' => ∃ xs, SqT K H' a xs ∧ xs.length = ms.length, fun i H' y H'' => H'' = H' ∧ ∀ xs, SqT K H' a xs → xs[i]? = some y, ⟨fun i H' hi ⟨xs, h1, h2⟩ => ?_, fun H' ⟨xs, h1, h2⟩ => ⟨xs, h1, by rw [h2]; exact Nat.le_refl _⟩, fun i H' y H'' _ _ h => h⟩, fun Z' α' H' S' z t s' e => ?_, fun Z' α' H' S' i n y H'' z t s' e hi hy => ?_⟩
  · have hi' : i < xs.length := by rw [h2]; exact hi
    exact ⟨xs, xs[i], h1, by simp [hi']⟩
  · obtain ⟨xs, h1, h2⟩ := at' Z' α' H' z t
    exact ⟨xs, h1, h2.length.symm⟩
  · obtain ⟨xs, h1, h2⟩ := at' Z' α' H' z t
    obtain ⟨rfl, hy⟩ := hy
    obtain ⟨v, e1, e2⟩ := h2.get hi
    have := hy xs h1
    rw [this] at e1; cases e1
    exact ⟨Tr.refl s', s', e2⟩
theorem walk_of_range {lo hi : Int} : WalkM K Z (Itr lo (hi - lo).toNat) ⟨rangeL lo hi, .tup [], []⟩ α H := by
  refine ⟨fun _ => True, fun i H' y H'' => H'' = H' ∧ y = .int (lo + i), ⟨fun i H' h _ => by (show i < (hi - lo).toNat); have h' : i < (rangeL lo hi).length := h; simpa [rangeL] using h', fun H' _ => by (show (hi - lo).toNat ≤ (rangeL lo hi).length); simp [rangeL], fun i H' y H'' _ _ h => h⟩, fun _ _ _ _ _ _ _ _ => trivial, fun Z' α' H' S' i n y H'' z t s' e hi' hy => ?_⟩
  obtain ⟨rfl, rfl⟩ := hy
  refine ⟨Tr.refl s', s', ?_⟩
  have hi' : (rangeL lo hi)[i]? = some n := hi'
  unfold rangeL at hi'
  rw [List.getElem?_map] at hi'
  obtain ⟨j, hj, rfl⟩ := Option.map_eq_some_iff.mp hi'
  have : j = i := by
    have := (List.getElem?_eq_some_iff.mp hj).2
    simpa using this.symm
  subst this
  simp only [Rep]
/-- enumerate: pairs -/
theorem enum_get {ms : List M} {i : Nat} {n : M} (h : ((List.range ms.length).map fun i => M.tup [.int (i : Nat), ms.getD i .non])[i]? = some n) : ∃ m, ms[i]? = some m ∧ n = .tup [.int (i : Nat), m] := by
  rw [List.getElem?_map] at h
  obtain ⟨j, hj, rfl⟩ := Option.map_eq_some_iff.mp h
  obtain ⟨hl, hj⟩ := List.getElem?_eq_some_iff.mp hj
  have e : j = i := by simpa using hj.symm
  subst e
  have hl : j < ms.length := by simpa using hl
  exact ⟨ms[j], by simp [hl], by simp [hl]⟩
theorem pair_rep {T : Addr} {i : Nat} {m : M} {v : V} (s : SR K Z α H S) (hT : H T = none) (r : Rep K Z α H m v) : Tr α H α (upd H T (.tup [.int (i : Nat), v])) ∧ SR K Z α (upd H T (.tup [.int (i : Nat), v])) S ∧ Rep K Z α (upd H T (.tup [.int (i : Nat), v])) (.tup [.int (i : Nat), m]) (.ref T) := by
  have t := Tr.new (o := .tup [.int (i : Nat), v]) s hT
  refine ⟨t, s.new hT, ?_⟩
  simp only [Rep, RepL]
  exact ⟨T, _, rfl, .of upd_same, _, _, rfl, rfl, v, [], rfl, Rep.tr s.muts t _ _ r, rfl⟩
theorem walk_of_enum {m : M} {a : Addr} {ms : List M} (s : SR K Z α H S) (r : Rep K Z α H m (.ref a)) (nt : ∀ l, m ≠ .tup l) : WalkM K Z (Ite K a) ⟨(List.range ms.length).map fun i => .tup [.int (i : Nat), ms.getD i .non], m, ms⟩ α H := by
  have at' : ∀ Z' α' H' S', ZT Z H Z' → TrQ Z α H α' H' → SR K Z' α' H' S' → seqOf S' m = some ms → ∃ xs, SqL K H' a xs ∧ RepL K Z' α' H' ms xs := fun Z' α' H' S' z t s' e => by
    obtain ⟨a', xs, ea, hs, q⟩ := seq_rep s' (Rep.trQ s.muts t z _ _ r) e
    cases ea
    rcases hs with ⟨hs, _⟩ | ⟨hs, em⟩
    · exact ⟨xs, hs, q⟩
    · exact absurd em (nt ms)
  refine ⟨fun H' => ∃ xs, SqL K H' a xs ∧ xs.length = ms.length, fun i H' y H'' => ∃ T x, y = .ref T ∧ H' T = none ∧ H'' = upd H' T (.tup [.int (i : Nat), x]) ∧ ∀ xs, SqL K H' a xs → xs[i]? = some x, ⟨fun i H' hi ⟨xs, h1, h2⟩ => ?_, fun H' ⟨xs, h1, h2⟩ => ⟨xs, h1, by simp [h2]⟩, fun i H' y H'' _ _ h => h⟩, fun Z' α' H' S' z t s' e => ?_, fun Z' α' H' S' i n y H'' z t s' e hi hy => ?_⟩
  · have hi' : i < xs.length := by rw [h2]; simpa using hi
    exact ⟨xs, xs[i], h1, by simp [hi']⟩
  · obtain ⟨xs, h1, h2⟩ := at' Z' α' H' S' z t s' e
    exact ⟨xs, h1, h2.length.symm⟩
  · obtain ⟨xs, h1, h2⟩ := at' Z' α' H' S' z t s' e
    obtain ⟨T, x, rfl, hT, rfl, hy⟩ := hy
    obtain ⟨m', em, rfl⟩ := enum_get hi
    obtain ⟨v, e1, e2⟩ := h2.get em
    have := hy xs h1
    rw [this] at e1; cases e1
    exact pair_rep s' hT e2
theorem walk_of_enumT {a : Addr} {ms : List M} (s : SR K Z α H S) (r : Rep K Z α H (.tup ms) (.ref a)) : WalkM K Z (IteT K a) ⟨(List.range ms.length).map fun i => .tup [.int (i : Nat), ms.getD i .non], .tup ms, ms⟩ α H := by
  have at' : ∀ Z' α' H', ZT Z H Z' → TrQ Z α H α' H' → ∃ xs, SqT K H' a xs ∧ RepL K Z' α' H' ms xs := fun Z' α' H' z t => by
    have q := Rep.trQ s.muts t z _ _ r
    simp only [Rep] at q
    obtain ⟨a', xs, ea, hs, q⟩ := q
    cases ea
    exact ⟨xs, hs, q⟩
  refine ⟨fun H' => ∃ xs, SqT K H' a xs ∧ xs.length = ms.length, fun i H' y H'' => ∃ T x, y = .ref T ∧ H' T = none ∧ H'' = upd H' T (.tup [.int (i : Nat), x]) ∧ ∀ xs, SqT K H' a xs → xs[i]? = some x, ⟨fun i H' hi ⟨xs, h1, h2⟩ => ?_, fun H' ⟨xs, h1, h2⟩ => ⟨xs, h1, by simp [h2]⟩, fun i H' y H'' _ _ h => h⟩, fun Z' α' H' S' z t s' e => ?_, fun Z' α' H' S' i n y H'' z t s' e hi hy => ?_⟩
  · have hi' : i < xs.length := by rw [h2]; simpa using hi
    exact ⟨xs, xs[i], h1, by simp [hi']⟩
  · obtain ⟨xs, h1, h2⟩ := at' Z' α' H' z t
    exact ⟨xs, h1, h2.length.symm⟩
  · obtain ⟨xs, h1, h2⟩ := at' Z' α' H' z t
    obtain ⟨T, x, rfl, hT, rfl, hy⟩ := hy
    obtain ⟨m', em, rfl⟩ := enum_get hi
    obtain ⟨v, e1, e2⟩ := h2.get em
    have := hy xs h1
    rw [this] at e1; cases e1
    exact pair_rep s' hT e2
end
end Mi

namespace Mi
open PySem PySem.Spec L2
variable [Tabs]

theorem PI.wk {X : Cx} {tg it : Expr} {w w' : TI} (h : PI X tg it w) (hw : ∀ σ H R, w' σ H R → w σ H R) : PI X tg it w' := ⟨fun pins s σ H R I ht => h.run pins s σ H R I (hw σ H R ht)⟩
theorem PG.or {X : Cx} {tg : Expr} {g g' : TG} (h : PG X tg g) (h' : PG X tg g') : PG X tg (fun v σ H Q => g v σ H Q ∨ g' v σ H Q) := ⟨fun pins s σ H v u Q I r ht => ht.elim (fun ht => h.run pins s σ H v u Q I r ht) fun ht => h'.run pins s σ H v u Q I r ht⟩
theorem PG.wk {X : Cx} {tg : Expr} {g g' : TG} (h : PG X tg g) (hw : ∀ v σ H Q, g' v σ H Q → g v σ H Q) : PG X tg g' := ⟨fun pins s σ H v u Q I r ht => h.run pins s σ H v u Q I r (hw v σ H Q ht)⟩
section
variable {Φ : Tx} {x : SX} {X : Cx} {CX : CXT} {k : Nat} {E : XK}
abbrev rdI (X : Cx) (Φ : Tx) (k : Nat) (E : XK) (it : It') : TI := fun σ H R => tR X.K X.mg E (evI (evalFn Φ k) it) σ H fun Z s _ α' H' => ∀ J, WalkM X.K Z J s α' H' → R J H'
theorem l_ival {a : C} {tg e : Expr} (ha : PE X e (rdC X Φ k E a)) : PI X tg e (rdI X Φ k E (.val a)) := by
  refine PI.wk (pi_seq ha) ?_
  rintro σ H R ⟨Z, α, S, γ, s, er, h⟩
  simp only [evI] at h
  refine ⟨Z, α, S, γ, s, er, h.bind.imp fun m S1 α1 H1 t1 s1 h v rv => ?_⟩
  obtain ⟨ms, e, h⟩ := h.of
  have q := h.now s1
  obtain ⟨a, xs, rfl, hs, r⟩ := seq_rep s1 rv e
  refine ⟨a, xs, rfl, ?_⟩
  rcases hs with ⟨hs, nt⟩ | ⟨hs, em⟩
  · exact .inl ⟨hs, q _ (walk_of_list s1 rv nt)⟩
  · subst em
    exact .inr ⟨hs, q _ (walk_of_tup s1 rv)⟩
theorem l_irange1 {a : C} {tg e : Expr} {n : Str} {p q : Pos} (g : Good Φ x X CX k E) (hn : n = Str.ofString "range") (hg : x.gl n = true) (ha : PE X e (rdC X Φ k E a)) (ho : odd e = false) : PI X tg (.Call (.Name n p) [e] [] q) (rdI X Φ k E (.range1 a)) := by
  subst hn
  refine PI.wk (pi_range1 (g.gl hg) (g.bl "range" (by decide)) (pa_cons ha pa_nil (odd_star ho [] X.env)) (odd_star ho [] X.env)) ?_
  rintro σ H R ⟨Z, α, S, γ, s, er, h⟩
  simp only [evI] at h
  refine ⟨Z, α, S, γ, s, er, h.bind.imp fun m S1 α1 H1 t1 s1 h v rv => ?_⟩
  split at h
  · rename_i j
    obtain ⟨⟨c1, c2, c5⟩, h⟩ := h.when
    refine ⟨j, by rw [rep_int rv], by omega, by omega, ?_⟩
    have w := h.now s1 _ (walk_of_range (K := X.K) (Z := Z) (lo := 0) (hi := j))
    rw [Int.sub_zero] at w
    exact w
  · exact False.elim h
theorem l_irange2 {a b : C} {tg e f : Expr} {n : Str} {p q : Pos} (g : Good Φ x X CX k E) (hn : n = Str.ofString "range") (hg : x.gl n = true) (ha : PE X e (rdC X Φ k E a)) (hb : PE X f (rdC X Φ k E b)) (ho : odd e = false) (ho' : odd f = false) : PI X tg (.Call (.Name n p) [e, f] [] q) (rdI X Φ k E (.range2 a b)) := by
  subst hn
  have h2 : starEach [f] X.env = [(false, eval f X.env)] := odd_star ho' [] X.env
  have h1 : starEach [e, f] X.env = [(false, eval e X.env), (false, eval f X.env)] := by rw [odd_star ho [f] X.env, h2]
  refine PI.wk (pi_range2 (g.gl hg) (g.bl "range" (by decide)) (pa_cons ha (pa_cons hb pa_nil h2) (odd_star ho [f] X.env)) h1 h2) ?_
  rintro σ H R ⟨Z, α, S, γ, s, er, h⟩
  simp only [evI] at h
  refine ⟨Z, α, S, γ, s, er, h.bind.imp fun m S1 α1 H1 t1 s1 h v rv => ⟨Z, α1, S1, γ, s1, er.tr s.muts t1, h.bind.imp fun m2 S2 α2 H2 t2 s2 h u ru => ?_⟩⟩
  split at h
  · obtain ⟨⟨c1, c2, c5⟩, h⟩ := h.when
    exact ⟨_, _, by rw [rep_int rv, rep_int ru], ⟨by omega, by omega, by omega, by omega⟩, h.now s2 _ walk_of_range⟩
  · exact False.elim h
theorem l_ienum {a : C} {elts : List Expr} {kk : Nat} {tp : Pos} {e : Expr} {n : Str} {p q : Pos} (g : Good Φ x X CX k E) (hn : n = Str.ofString "enumerate") (hg : x.gl n = true) (ha : PE X e (rdC X Φ k E a)) (ho : odd e = false) : PI X (.Tuple elts kk tp) (.Call (.Name n p) [e] [] q) (rdI X Φ k E (.enum a)) := by
  subst hn
  refine PI.wk (pi_enumB (g.gl hg) (g.bl "enumerate" (by decide)) (pa_cons ha pa_nil (odd_star ho [] X.env)) (odd_star ho [] X.env)) ?_
  rintro σ H R ⟨Z, α, S, γ, s, er, h⟩
  simp only [evI] at h
  refine ⟨Z, α, S, γ, s, er, h.bind.imp fun m S1 α1 H1 t1 s1 h v rv => ?_⟩
  obtain ⟨ms, e, h⟩ := h.of
  have w := h.now s1
  obtain ⟨a, xs, rfl, hs, r⟩ := seq_rep s1 rv e
  refine ⟨a, xs, rfl, ?_⟩
  rcases hs with ⟨hs, nt⟩ | ⟨hs, em⟩
  · exact .inl ⟨hs, w _ (walk_of_enum s1 rv nt)⟩
  · subst em
    exact .inr ⟨hs, w _ (walk_of_enumT s1 rv)⟩
/-! ### targets -/
/-- slots set one after another -/
def setAll : List Nat → List V → Slots → Slots
  | i :: l, v :: vs, σ => setAll l vs (σ.set i (some v))
  | _, _, σ => σ
/-- what a target asks -/
def rdG (K : PySem.W.Frag) (tg : Tg) : TG := fun v σ H Q => match tg with
  | .nm i => Q (σ.set i (some v)) H
  | .tu l => ∃ a xs, v = .ref a ∧ (SqT K H a xs ∨ SqL K H a xs) ∧ xs.length = l.length ∧ Q (setAll l xs σ) H
theorem l_nm {i : Nat} {e : Expr} (g : Good Φ x X CX k E) (h : chkNm x i e = true) : PG X e (gName i) := by
  unfold chkNm at h
  split at h
  · simp only [Bool.and_eq_true, decide_eq_true_eq] at h
    obtain ⟨h1, h2⟩ := g.loc h.2
    exact pg_name g.nd (by rw [g.eN]; exact h.1) h1 h2
  · cases h
theorem nm_name {i : Nat} {e : Expr} (h : chkNm x i e = true) : ∃ n p, e = .Name n p := by
  unfold chkNm at h
  split at h
  · exact ⟨_, _, rfl⟩
  · cases h
theorem l_nms (g : Good Φ x X CX k E) : ∀ {l : List Nat} {es : List Expr}, chkNms x l es = true →
    PGs X es (fun vs σ H Q => vs.length = l.length ∧ Q (setAll l vs σ) H) ∧ (assignEach es X.env).length = l.length ∧ (assignEach es X.env).findIdx? (·.1) = none
  | [], es, h => by
    cases es with
    | nil =>
      refine ⟨⟨fun pins s σ H vs us Q I r ht => pgs_nil.run pins s σ H vs us Q I r ?_⟩, rfl, rfl⟩
      obtain ⟨e, q⟩ := ht
      cases vs with
      | nil => exact ⟨rfl, q⟩
      | cons v vs => cases e
    | cons e es => simp [chkNms] at h
  | i :: l, es, h => by
    cases es with
    | nil => simp [chkNms] at h
    | cons e es =>
      simp only [chkNms, Bool.and_eq_true] at h
      obtain ⟨ih, h1, h2⟩ := l_nms g h.2
      obtain ⟨n, p, rfl⟩ := nm_name h.1
      refine ⟨⟨fun pins s σ H vs us Q I r ht => (pgs_cons (l_nm g h.1) ih).run pins s σ H vs us Q I r ?_⟩, ?_, ?_⟩
      · obtain ⟨el, q⟩ := ht
        cases vs with
        | nil => cases el
        | cons v vs => exact ⟨v, vs, rfl, by simpa using el, q⟩
      · show (assignEach es X.env).length + 1 = l.length + 1
        rw [h1]
      · show List.findIdx? (·.1) ((false, _) :: assignEach es X.env) = none
        rw [List.findIdx?_cons]
        simp [h2]
theorem l_tg {tg : Tg} {e : Expr} (g : Good Φ x X CX k E) (h : chkTg x tg e = true) : PG X e (rdG X.K tg) := by
  unfold chkTg at h
  split at h
  · exact l_nm g h
  · obtain ⟨p, h1, h2⟩ := l_nms g h
    refine PG.wk (PG.or (pg_tup g.calm p h1 h2) (pg_lst g.calm p h1 h2)) ?_
    rintro v σ H Q ⟨a, xs, e1, e2, e3, e4⟩
    rcases e2 with e2 | e2
    · exact .inl ⟨a, xs, e1, e2, e3, e3, e4⟩
    · exact .inr ⟨a, xs, e1, e2, e3, e3, e4⟩
  · cases h
section
variable {K : PySem.W.Frag} {Z α : List Addr} {H : Hp} {S : Store}
theorem ER.set {γ : Env} {σ : Slots} {i : Nat} {m : M} {v : V} (e : ER K Z α H γ σ) (r : Rep K Z α H m v) : ER K Z α H (γ.set i (some m)) (σ.set i (some v)) := by
  refine ⟨by simp [e.len], fun j m' h => ?_⟩
  rw [List.getElem?_set] at h
  rw [List.getElem?_set, ← e.len]
  split at h
  · rename_i hij
    split at h
    · rename_i hl
      cases h
      rw [if_pos hij, if_pos hl]
      exact ⟨v, rfl, r⟩
    · cases h
  · rename_i hij
    rw [if_neg hij]
    exact e.get j m' h
theorem ER.setAll : ∀ {l : List Nat} {ms : List M} {xs : List V} {γ : Env} {σ : Slots}, ER K Z α H γ σ → RepL K Z α H ms xs → ER K Z α H (bindT.go l ms γ) (setAll l xs σ)
  | [], ms, xs, γ, σ, e, r => by
    have h1 : bindT.go [] ms γ = γ := by unfold bindT.go; rfl
    have h2 : Mi.setAll [] xs σ = σ := by unfold Mi.setAll; rfl
    rw [h1, h2]; exact e
  | i :: l, [], xs, γ, σ, e, r => by
    simp only [RepL] at r
    subst r
    exact e
  | i :: l, m :: ms, xs, γ, σ, e, r => by
    simp only [RepL] at r
    obtain ⟨v, vs, rfl, h1, h2⟩ := r
    show ER K Z α H (bindT.go l ms (γ.set i (some m))) (Mi.setAll l vs (σ.set i (some v)))
    exact ER.setAll (e.set h1) h2
/-- a target is bound -/
theorem tg_out {tg : Tg} {m : M} {v : V} {γ γ1 : Env} {σ : Slots} {Q : Slots → Hp → Prop} (e : ER K Z α H γ σ) (r : Rep K Z α H m v) (hb : bindT tg m γ = some γ1) (h : ∀ σ1, ER K Z α H γ1 σ1 → (∀ own : List Nat, (∀ j ∈ tg.slots, j ∈ own) → wipe σ1 own = wipe σ own) → Q σ1 H) : rdG K tg v σ H Q := by
  have one : ∀ (own : List Nat) (σ : Slots) (i : Nat) (v : V), i ∈ own → wipe (σ.set i (some v)) own = wipe σ own := by
    intro own
    induction own with
    | nil => intro σ i v hi; cases hi
    | cons j own ih =>
      intro σ i v hi
      show (wipe (σ.set i (some v)) own).set j none = (wipe σ own).set j none
      by_cases hio : i ∈ own
      · rw [ih σ i v hio]
      · have hij : i = j := (List.mem_cons.mp hi).resolve_right hio
        subst hij
        have key : ∀ (own : List Nat) (σ : Slots), i ∉ own → wipe (σ.set i (some v)) own = (wipe σ own).set i (some v) := by
          intro own
          induction own with
          | nil => intro σ _; rfl
          | cons q own ih2 =>
            intro σ hn
            simp only [List.mem_cons, not_or] at hn
            show (wipe (σ.set i (some v)) own).set q none = ((wipe σ own).set q none).set i (some v)
            rw [ih2 σ hn.2, List.set_comm _ _ hn.1]
        rw [key own σ hio, List.set_set]
  unfold bindT at hb
  cases tg with
  | nm i =>
    simp only [Option.some.injEq] at hb
    subst hb
    exact h _ (e.set r) fun own hw => one own σ i v (hw i (by simp [Tg.slots]))
  | tu l =>
    have many : ∀ (own : List Nat) (l : List Nat) (xs : List V) (σ : Slots), (∀ j ∈ l, j ∈ own) → wipe (setAll l xs σ) own = wipe σ own := by
      intro own l
      induction l with
      | nil => intro xs σ _; cases xs <;> rfl
      | cons i l ih =>
        intro xs σ hw
        cases xs with
        | nil => rfl
        | cons v xs =>
          show wipe (setAll l xs (σ.set i (some v))) own = _
          rw [ih xs _ fun j hj => hw j (List.mem_cons_of_mem _ hj), one own σ i v (hw i List.mem_cons_self)]
    cases m with
    | tup ms =>
      simp only at hb
      split at hb
      · rename_i hl
        simp only [Option.some.injEq] at hb
        subst hb
        simp only [Rep] at r
        obtain ⟨a, xs, rfl, hs, q⟩ := r
        exact ⟨a, xs, rfl, .inl hs, by rw [← q.length, hl], h _ (e.setAll q) fun own hw => many own l xs σ hw⟩
      · cases hb
    | lst ms =>
      simp only at hb
      split at hb
      · rename_i hl
        simp only [Option.some.injEq] at hb
        subst hb
        simp only [Rep] at r
        obtain ⟨a, xs, rfl, hs, _, q⟩ := r
        exact ⟨a, xs, rfl, .inr (.of hs), by rw [← q.length, hl], h _ (e.setAll q) fun own hw => many own l xs σ hw⟩
      · cases hb
    | _ => cases hb
theorem ER.wipe {γ : Env} {σ : Slots} (e : ER K Z α H γ σ) : ∀ own : List Nat, ER K Z α H (wipeE γ own) (L2.wipe σ own)
  | [] => e
  | j :: own => by
    have ih := ER.wipe e own
    refine ⟨by show ((wipeE γ own).set j none).length = ((L2.wipe σ own).set j none).length; simp [ih.len], fun i m h => ?_⟩
    have h : ((wipeE γ own).set j none)[i]? = some (some m) := h
    show ∃ v, ((L2.wipe σ own).set j none)[i]? = some (some v) ∧ _
    rw [List.getElem?_set] at h ⊢
    split at h
    · split at h <;> cases h
    · rename_i hij
      rw [if_neg hij]
      exact ih.get i m h
end
end
end Mi

namespace Mi
open PySem PySem.Spec L2
variable [Tabs]

/-- a comprehension's turn -/
def turnF (call : String → List M → Store → R M) (tg : Tg) (ifs : To) (e : C) (γw : Env) (x : M) (S : Store) : R (Option M) := .of (bindT tg x γw) fun γ1 =>
  ((evt call ifs γ1 S).bind fun b S => if b = true then (ev call e γ1 S).bind fun m S => .ok (some m) S else .ok none S).calm
theorem ev_lc {call : String → List M → Store → R M} {al : Bool} {tg : Tg} {it : It'} {ifs : To} {e : C} {own : List Nat} {γ : Env} {S : Store} : ev call (.lc al tg it ifs e own) γ S =
    (evI call it γ S).bind fun s S => .when (s.items.length ≤ big) ((compLoop s (turnF call tg ifs e (wipeE γ own)) s.items S).bind fun ms S => mkL al ms S) := by
  simp only [ev]; rfl
theorem ev_ssc {call : String → List M → Store → R M} {al : Bool} {tg : Tg} {it : It'} {ifs : To} {e : C} {own : List Nat} {γ : Env} {S : Store} : ev call (.ssc al tg it ifs e own) γ S =
    (evI call it γ S).bind fun s S => .when (s.items.length ≤ 4000) ((compLoop s (turnF call tg ifs e (wipeE γ own)) s.items S).bind fun ms S =>
      .of (intsOf ms) fun is => .when ((dedup is).length < 64) (mkL al ((isort (dedup is)).map M.int) S)) := by
  simp only [ev]; rfl
section
variable {K : PySem.W.Frag} {mg : Str → Option Value} {E : XK} {Z α : List Addr} {H : Hp}
theorem bind_assoc {τ υ ω : Type} (r : R τ) (f : τ → Store → R υ) (g : υ → Store → R ω) : (r.bind f).bind g = r.bind fun a S => (f a S).bind g := by cases r <;> rfl
mutual
/-- a reserved address joins the store's -/
theorem Rep.join {D : Addr} : ∀ (m : M) (v : V), Rep K (D :: Z) α H m v → Rep K Z (α ++ [D]) H m v
  | .non, v, h => by simpa only [Rep] using h
  | .bl b, v, h => by simpa only [Rep] using h
  | .int i, v, h => by simpa only [Rep] using h
  | .str s, v, h => by simpa only [Rep] using h
  | .scr ns, v, h => by
    simp only [Rep] at h ⊢
    obtain ⟨a, e, h⟩ := h
    refine ⟨a, e, h.imp id fun ⟨h, n⟩ => ⟨h, fun ha => ?_, fun hz => n.2 (List.mem_cons_of_mem _ hz)⟩⟩
    rcases List.mem_append.mp ha with ha | ha
    · exact n.1 ha
    · exact n.2 (by rw [List.mem_singleton.mp ha]; exact List.mem_cons_self)
  | .ref n, v, h => by
    simp only [Rep] at h ⊢
    obtain ⟨a, h, e⟩ := h
    refine ⟨a, ?_, e⟩
    rw [List.getElem?_append_left (List.getElem?_eq_some_iff.mp h).1]
    exact h
  | .tup ms, v, h => by
    simp only [Rep] at h ⊢
    obtain ⟨a, xs, e, h, r⟩ := h
    exact ⟨a, xs, e, h, RepL.join ms xs r⟩
  | .lst ms, v, h => by
    simp only [Rep] at h ⊢
    obtain ⟨a, xs, e, h, n, r⟩ := h
    refine ⟨a, xs, e, h, ⟨fun ha => ?_, fun hz => n.2 (List.mem_cons_of_mem _ hz)⟩, RepL.join ms xs r⟩
    rcases List.mem_append.mp ha with ha | ha
    · exact n.1 ha
    · exact n.2 (by rw [List.mem_singleton.mp ha]; exact List.mem_cons_self)
theorem RepL.join {D : Addr} : ∀ (ms : List M) (xs : List V), RepL K (D :: Z) α H ms xs → RepL K Z (α ++ [D]) H ms xs
  | [], xs, h => by simpa only [RepL] using h
  | m :: ms, xs, h => by
    simp only [RepL] at h ⊢
    obtain ⟨x, r, e, h, q⟩ := h
    exact ⟨x, r, e, Rep.join m x h, RepL.join ms r q⟩
end
theorem SR.joinO {D : Addr} {S : Store} {ob : O} (s : SR K (D :: Z) α H S) (nZ : D ∉ Z) (r : ObjR K (D :: Z) α H D ob) : SR K Z (α ++ [D]) H (S ++ [ob]) := by
  have nD := (s.zs D List.mem_cons_self).1
  refine ⟨?_, by simp [s.len], fun n u h => ?_, fun a ha => ⟨fun hm => ?_, (s.zs a (List.mem_cons_of_mem _ ha)).2⟩, s.tb⟩
  · rw [List.nodup_append]
    exact ⟨s.nd, by simp, fun a ha b hb => fun q => nD (by rw [← List.mem_singleton.mp hb, ← q]; exact ha)⟩
  · by_cases hn : n < S.length
    · rw [List.getElem?_append_left hn] at h
      obtain ⟨a, ha, ob⟩ := s.obj n u h
      exact ⟨a, by rw [List.getElem?_append_left (by rw [s.len]; exact hn)]; exact ha, ob.map (fun _ _ q => q.join) rfl⟩
    · rw [List.getElem?_append_right (by omega)] at h
      have hn0 : n - S.length = 0 := by
        cases hq : n - S.length with
        | zero => rfl
        | succ q => rw [hq] at h; cases h
      rw [hn0] at h
      cases h
      refine ⟨D, ?_, r.map (fun _ _ q => q.join) rfl⟩
      rw [List.getElem?_append_right (by rw [s.len]; omega), s.len, hn0]
      rfl
  · rcases List.mem_append.mp hm with hm | hm
    · exact (s.zs a (List.mem_cons_of_mem _ ha)).1 hm
    · exact nZ (by rw [← List.mem_singleton.mp hm]; exact ha)
theorem SR.join {D : Addr} {S : Store} {ms : List M} {xs : List V} (s : SR K (D :: Z) α H S) (nZ : D ∉ Z) (e : H D = some (.lst xs)) (r : RepL K (D :: Z) α H ms xs) : SR K Z (α ++ [D]) H (S ++ [.lst ms]) := s.joinO nZ ⟨xs, e, r⟩
/-- one turn of the loop, as far as it is asked -/
theorem turn_out {call : String → List M → Store → R M} {tg : Tg} {ifs : To} {e : C} {γw : Env} {s : Src} {m : M} {rest : List M} {S : Store} {υ : Type} {G : List M → Store → R υ} {P : υ → Store → List Addr → Hp → Prop}
    (h : Out K Z mg E ((compLoop s (turnF call tg ifs e γw) (m :: rest) S).bind G) α H P) : s.ok S ∧ ∃ γ1, bindT tg m γw = some γ1 ∧ ∃ b S1, evt call ifs γ1 S = .ok b S1 ∧
      ((b = true ∧ ∃ y S2, ev call e γ1 S1 = .ok y S2 ∧ Out K Z mg E ((compLoop s (turnF call tg ifs e γw) rest S2).bind fun r S => G ([y] ++ r) S) α H P) ∨
       (b = false ∧ Out K Z mg E ((compLoop s (turnF call tg ifs e γw) rest S1).bind G) α H P)) := by
  unfold compLoop at h
  by_cases hok : s.ok S
  · refine ⟨hok, ?_⟩
    rw [R.when_true hok] at h
    cases hb : bindT tg m γw with
    | none => rw [show turnF call tg ifs e γw m S = .bad by unfold turnF; rw [hb]; rfl] at h; exact False.elim h
    | some γ1 =>
      refine ⟨γ1, rfl, ?_⟩
      cases ht : evt call ifs γ1 S with
      | bad => rw [show turnF call tg ifs e γw m S = .bad by unfold turnF; rw [hb, R.of_some, ht]; rfl] at h; exact False.elim h
      | exc y S' => rw [show turnF call tg ifs e γw m S = .bad by unfold turnF; rw [hb, R.of_some, ht]; rfl] at h; exact False.elim h
      | ok b S1 =>
        refine ⟨b, S1, rfl, ?_⟩
        cases b with
        | false =>
          rw [show turnF call tg ifs e γw m S = .ok none S1 by unfold turnF; rw [hb, R.of_some, ht]; rfl] at h
          refine .inr ⟨rfl, ?_⟩
          rw [R.bind_ok, bind_assoc] at h
          exact h
        | true =>
          refine .inl ⟨rfl, ?_⟩
          cases he : ev call e γ1 S1 with
          | bad => rw [show turnF call tg ifs e γw m S = .bad by unfold turnF; rw [hb, R.of_some, ht, R.bind_ok, if_pos rfl, he]; rfl] at h; exact False.elim h
          | exc y S' => rw [show turnF call tg ifs e γw m S = .bad by unfold turnF; rw [hb, R.of_some, ht, R.bind_ok, if_pos rfl, he]; rfl] at h; exact False.elim h
          | ok y S2 =>
            rw [show turnF call tg ifs e γw m S = .ok (some y) S2 by unfold turnF; rw [hb, R.of_some, ht, R.bind_ok, if_pos rfl, he]; rfl] at h
            refine ⟨y, S2, rfl, ?_⟩
            rw [R.bind_ok, bind_assoc] at h
            exact h
  · rw [show R.when (s.ok S) _ = .bad from if_neg hok] at h
    exact False.elim h
theorem end_out {call : String → List M → Store → R M} {f : M → Store → R (Option M)} {s : Src} {S : Store} {υ : Type} {G : List M → Store → R υ} {P : υ → Store → List Addr → Hp → Prop}
    (h : Out K Z mg E ((compLoop s f [] S).bind G) α H P) : s.ok S ∧ Out K Z mg E (G [] S) α H P := by
  unfold compLoop at h
  by_cases hok : s.ok S
  · rw [R.when_true hok] at h
    exact ⟨hok, h⟩
  · rw [show R.when (s.ok S) _ = .bad from if_neg hok] at h
    exact False.elim h
theorem ok_out {call : String → List M → Store → R M} {tg : Tg} {ifs : To} {e : C} {γw : Env} {s : Src} {l : List M} {S : Store} {υ : Type} {G : List M → Store → R υ} {P : υ → Store → List Addr → Hp → Prop}
    (h : Out K Z mg E ((compLoop s (turnF call tg ifs e γw) l S).bind G) α H P) : s.ok S := by
  cases l with
  | nil => exact (end_out (call := call) h).1
  | cons m l => exact (turn_out h).1
theorem wipe_wipe (σ : Slots) (own : List Nat) : L2.wipe (L2.wipe σ own) own = L2.wipe σ own := by
  apply List.ext_getElem?
  intro i
  have key : ∀ (own : List Nat) (σ : Slots) (i : Nat), (L2.wipe σ own)[i]? = if i ∈ own then σ[i]?.map (fun _ => none) else σ[i]? := by
    intro own
    induction own with
    | nil => intro σ i; simp [L2.wipe]
    | cons j own ih =>
      intro σ i
      show ((L2.wipe σ own).set j none)[i]? = _
      rw [List.getElem?_set, wipe_length]
      by_cases hij : j = i
      · subst hij
        rw [if_pos rfl, if_pos List.mem_cons_self]
        by_cases hl : j < σ.length
        · rw [if_pos hl, List.getElem?_eq_getElem hl]; rfl
        · rw [if_neg hl, List.getElem?_eq_none (by omega)]; rfl
      · rw [if_neg hij, ih]
        have : i ∈ j :: own ↔ i ∈ own := by simp [Ne.symm hij]
        by_cases hm : i ∈ own
        · rw [if_pos hm, if_pos (this.mpr hm)]
        · rw [if_neg hm, if_neg (fun q => hm (this.mp q))]
  rw [key, key]
  by_cases hm : i ∈ own
  · rw [if_pos hm, if_pos hm]
    cases σ[i]? <;> rfl
  · rw [if_neg hm, if_neg hm]
end
section
variable {Φ : Tx} {x : SX} {X : Cx} {CX : CXT} {k : Nat} {E : XK}
abbrev E00 : XK := fun _ _ _ => False
abbrev rdF (X : Cx) (Φ : Tx) (k : Nat) (E : XK) (c : To) : TT := tB' X.K X.mg E (evt (evalFn Φ k) c)
theorem l_fno : PTs X [] (rdF X Φ k E .no) := by
  refine ⟨fun pins s σ H Q I h => pts_nil.run pins s σ H Q I ?_⟩
  obtain ⟨Z, α, S, γ, s, er, h⟩ := h
  simp only [evt] at h
  exact h.now s
theorem l_fso {t : T} {e : Expr} (h : PT X e (rdT X Φ k E t)) : PTs X [e] (rdF X Φ k E (.so t)) := by
  refine ⟨fun pins s σ H Q I ht => (pts_one h).run pins s σ H Q I ?_⟩
  obtain ⟨Z, α, S, γ, s, er, h⟩ := ht
  simp only [evt] at h
  exact ⟨Z, α, S, γ, s, er, h⟩
theorem own_snd {N : List Str} {own : List Nat} : (ownP N own).map (·.2) = own := by
  unfold ownP
  rw [List.map_map]
  exact List.map_id' own
/-- [e for tg in it if ..] -/
theorem l_lc {al : Bool} {tg : Tg} {it : It'} {ifs : To} {el : C} {own : List Nat} {v t i : Expr} {ts : List Expr} {sc : Scope} {p : Pos} (g : Good Φ x X CX k E) (hb : blkC x.N x.sc sc (ownP x.N own) = true) (hs : (tg.slots.all fun j => decide (j ∈ own)) = true)
    (hi : PI X t i (rdI X Φ k E it)) (ho : odd i = false ∨ ∀ z, foldedSetIterable i X.env z = pure z)
    (hg : ∀ (s : Shared) (H : Hp) (C : Addr) (cl : List (Str × Addr)) (fp : List Addr), PG (X.blk s H sc (compEnvC sc cl C X.env) fp) t (rdG X.K tg))
    (ht : ∀ (s : Shared) (H : Hp) (C : Addr) (cl : List (Str × Addr)) (fp : List Addr), PTs (X.blk s H sc (compEnvC sc cl C X.env) fp) ts (rdF X Φ k E00 ifs))
    (he : ∀ (s : Shared) (H : Hp) (C : Addr) (cl : List (Str × Addr)) (fp : List Addr), PE (X.blk s H sc (compEnvC sc cl C X.env) fp) v (rdC X Φ k E00 el)) :
    ∀ σ H Q, rdC X Φ k E (.lc al tg it ifs el own) σ H Q → tLc (rdI X Φ k E it) (rdG X.K tg) (rdF X Φ k E00 ifs) (rdC X Φ k E00 el) own σ H Q := by
  have slots : ∀ j ∈ tg.slots, j ∈ own := fun j hj => of_decide_eq_true (List.all_eq_true.mp hs j hj)
  rintro σ H Q ⟨Z, α, S, γ, s, er, h⟩
  rw [ev_lc] at h
  refine ⟨Z, α, S, γ, s, er, h.bind.imp fun src S1 α1 H1 t1 s1 h J WM D hD => ?_⟩
  obtain ⟨hlen, h⟩ := h.when
  obtain ⟨G, Y, w, hG, hY⟩ := WM.ex
  have bl := big_line
  have er1 := er.tr s.muts t1
  refine lc_it w (fun i H' => ∃ α' S' acc am, Tr α1 H1 α' H' ∧ SR X.K (D :: Z) α' H' S' ∧ H' D = some (.lst acc) ∧ RepL X.K (D :: Z) α' H' am acc ∧ acc.length ≤ i ∧
    Out X.K Z X.mg E ((compLoop src (turnF (evalFn Φ k) tg ifs el (wipeE γ own)) (src.items.drop i) S').bind fun r S'' => mkL al (am ++ r) S'') α1 H1 (PM X.K Z Q)) ?_ ?_ ?_ ?_
  · exact ⟨α1, S1, [], [], Tr.new s1 hD, s1.reserve hD, upd_same, by simp only [RepL], Nat.le_refl _, by simpa using h⟩
  · rintro i H' _ ⟨α', S', acc, am, t, s', e1, r, l, o⟩
    exact hG (D :: Z) α' H' S' (ZT.cons hD) t.q s' (ok_out o)
  · rintro i y H' H'' hi ⟨α', S', acc, am, t, s', e1, r, l, o⟩ hy
    have hd : src.items.drop i = src.items[i] :: src.items.drop (i + 1) := List.drop_eq_getElem_cons hi
    rw [hd] at o
    obtain ⟨hok, γ1, hb1, b, S2, ht1, hcase⟩ := turn_out o
    obtain ⟨ty, s'', ry⟩ := hY (D :: Z) α' H' S' i src.items[i] y H'' (ZT.cons hD) t.q s' hok (by simp [hi]) hy
    have tt := t.trans ty
    have e2 : H'' D = some (.lst acc) := ty.keep D _ e1 (s'.zs D List.mem_cons_self).1 trivial
    have r2 := RepL.tr s'.muts ty _ _ r
    have erw := ER.wipe ((er1.trZ s1.muts tt (ZT.cons hD))) own
    refine tg_out erw ry hb1 fun σ1 er2 hw => ⟨by rw [hw own slots, wipe_wipe], ?_⟩
    refine ⟨D :: Z, α', S', γ1, s'', er2, ?_⟩
    rw [ht1]
    intro α2 H2 t2 s2
    have e3 : H2 D = some (.lst acc) := t2.keep D _ e2 (s''.zs D List.mem_cons_self).1 trivial
    rcases hcase with ⟨rfl, m, S3, hev, o⟩ | ⟨rfl, o⟩
    · show rdC X Φ k E00 el σ1 H2 _
      refine ⟨D :: Z, α2, S2, γ1, s2, er2.tr s''.muts t2, ?_⟩
      rw [hev]
      intro α3 H3 t3 s3 u ru
      have e4 : H3 D = some (.lst acc) := t3.keep D _ e3 (s2.zs D List.mem_cons_self).1 trivial
      refine ⟨acc, e4, by omega, α3, S3, acc ++ [u], am ++ [m], ?_, ?_, upd_same, ?_, by simp; omega, ?_⟩
      · exact Tr.off ((tt.trans t2).trans t3) hD (s3.zs D List.mem_cons_self).1
      · exact SR.off List.mem_cons_self e4 trivial s3
      · exact RepL.off List.mem_cons_self e4 trivial _ _ ((RepL.tr s''.muts (t2.trans t3) _ _ r2).append (RepL.one ru))
      · simpa only [List.append_assoc] using o
    · exact ⟨α2, S2, acc, am, tt.trans t2, s2, e3, RepL.tr s''.muts t2 _ _ r2, by omega, o⟩
  · rintro H' ⟨α', S', acc, am, t, s', e1, r, l, o⟩
    rw [List.drop_length] at o
    obtain ⟨_, o⟩ := end_out (call := evalFn Φ k) o
    rw [List.append_nil] at o
    have sZ : SR X.K Z α' H' S' := s'.sub fun a ha => List.mem_cons_of_mem _ ha
    have nD := (s'.zs D List.mem_cons_self).1
    have rZ := RepL.sub (Z' := Z) (fun a ha => List.mem_cons_of_mem _ ha) _ _ r
    have nZ : D ∉ Z := fun hz => (s1.zs D hz).2 hD
    unfold mkL at o
    cases al with
    | false =>
      have o' : Out X.K Z X.mg E (.ok (.lst am) S') α1 H1 (PM X.K Z Q) := o
      refine o' α' H' t sZ (.ref D) ?_
      simp only [Rep]
      exact ⟨D, acc, rfl, e1, ⟨nD, nZ⟩, rZ⟩
    | true =>
      have live : ∀ a ∈ α' ++ [D], H' a ≠ none := fun a ha => by
        rcases List.mem_append.mp ha with ha | ha
        · exact t.live a ha
        · rw [List.mem_singleton.mp ha, e1]; exact fun z => by cases z
      have tD : Tr α1 H1 (α' ++ [D]) H' := by
        obtain ⟨β, eβ, hβ⟩ := t.ext
        refine ⟨t.keep, t.tbl, ⟨β ++ [D], by rw [eβ, List.append_assoc], fun a ha => ?_⟩, live⟩
        rcases List.mem_append.mp ha with ha | ha
        · exact hβ a ha
        · rw [List.mem_singleton.mp ha]; exact hD
      have o' : Out X.K Z X.mg E (.ok (.ref S'.length) (S' ++ [.lst am])) α1 H1 (PM X.K Z Q) := o
      refine o' (α' ++ [D]) H' tD (s'.join nZ e1 r) (.ref D) ?_
      simp only [Rep]
      refine ⟨D, ?_, rfl⟩
      rw [List.getElem?_append_right (by rw [s'.len]; exact Nat.le_refl _), s'.len, Nat.sub_self]
      rfl
end
end Mi

namespace Mi
open PySem PySem.Spec L2
variable [Tabs]

section
variable {J : It} {n : Nat} {G : Hp → Prop} {Y : Nat → Hp → V → Hp → Prop}
theorem si_it {w : World} (k : Walk J n G Y) {g : TG} {tt : TT} {te : TE} {vs : List Nat} {σ : St} {H1 : Hp} {D : Addr} {Qd : Hp → Prop} (Pv : Nat → Hp → Prop) (h0 : Pv 0 (upd H1 D (SetO w D (fun _ => false) 0))) (hG : ∀ i H, i ≤ n → Pv i H → G H)
    (hs : ∀ i x H H', i < n → Pv i H → Y i H x H' → g x (wipe σ vs) H' fun σ2 H2 => wipe σ2 vs = wipe σ vs ∧ tt σ2 H2 fun b H3 =>
      if b = true then te σ2 H3 fun y H4 => ∃ (z : Int) (S : Int → Bool) (c : Nat), y = .int z ∧ H4 D = some (SetO w D S c) ∧ c + 1 < scanBound ∧ Pv (i + 1) (upd H4 D (SetO w D (fun j => S j || decide (j = z)) (if S z = true then c else c + 1))) else Pv (i + 1) H3) (hd : ∀ H, Pv n H → Qd H) :
    ∃ W : Nat → Nat → Hp → Prop, (∃ m, W 0 m (upd H1 D (SetO w D (fun _ => false) 0))) ∧ ∀ i m H, W i m H →
      (J.stop i H ∧ Qd H) ∨ (J.go i H ∧ ∃ Nx : Hp → Prop, (∀ H', Nx H' → ∃ m', m' < m ∧ W (i + 1) m' H') ∧ ∀ x H', J.yld i H x H' → g x (wipe σ vs) H' fun σ2 H2 => wipe σ2 vs = wipe σ vs ∧ tt σ2 H2 fun b H3 =>
        if b = true then te σ2 H3 fun y H4 => ∃ (z : Int) (S : Int → Bool) (c : Nat), y = .int z ∧ H4 D = some (SetO w D S c) ∧ c + 1 < scanBound ∧ Nx (upd H4 D (SetO w D (fun j => S j || decide (j = z)) (if S z = true then c else c + 1))) else Nx H3) := by
  refine ⟨fun i m H => m = n - i ∧ i ≤ n ∧ Pv i H, ⟨n, by simp, Nat.zero_le _, h0⟩, fun i m H hW => ?_⟩
  obtain ⟨em, hi, p⟩ := hW
  rcases Nat.lt_or_ge i n with lt | ge
  · exact .inr ⟨k.goes i H lt (hG i H hi p), Pv (i + 1), fun H' p' => ⟨n - (i + 1), by omega, rfl, lt, p'⟩, fun x H' y => hs i x H H' lt p (k.yields i H x H' lt (hG i H hi p) y)⟩
  · have e : i = n := by omega
    rw [e] at p ⊢
    exact .inl ⟨k.stops H (hG n H (Nat.le_refl _) p), hd H p⟩
end
section
variable {K : PySem.W.Frag} {mg : Str → Option Value} {E : XK} {Z α : List Addr} {H : Hp}
theorem loop_calm {call : String → List M → Store → R M} {tg : Tg} {ifs : To} {e : C} {γw : Env} {s : Src} : ∀ (l : List M) (S : Store) (x : Ex) (S' : Store), compLoop s (turnF call tg ifs e γw) l S ≠ .exc x S'
  | [], S, x, S' => by
    unfold compLoop R.when
    split <;> exact fun z => by cases z
  | m :: l, S, x, S' => by
    unfold compLoop R.when
    split
    · cases ht : turnF call tg ifs e γw m S with
      | bad => exact fun z => by cases z
      | exc y S1 =>
        exfalso
        unfold turnF at ht
        cases hb : bindT tg m γw with
        | none => rw [hb] at ht; cases ht
        | some γ1 =>
          rw [hb, R.of_some] at ht
          unfold R.calm at ht
          split at ht
          · cases ht
          · rename_i q; exact q _ _ ht
      | ok o S1 =>
        rw [R.bind_ok]
        cases hl : compLoop s (turnF call tg ifs e γw) l S1 with
        | bad => exact fun z => by cases z
        | exc y S2 => exact absurd hl (loop_calm l S1 y S2)
        | ok r S2 => exact fun z => by cases z
    · exact fun z => by cases z
theorem ints_pre : ∀ (a b : List M) (is : List Int), intsOf (a ++ b) = some is → ∃ js, intsOf a = some js
  | [], b, is, h => ⟨[], rfl⟩
  | m :: a, b, is, h => by
    cases m with
    | int i =>
      show ∃ js, (intsOf a).map (i :: ·) = some js
      have h' : (intsOf (a ++ b)).map (i :: ·) = some is := h
      cases hq : intsOf (a ++ b) with
      | none => rw [hq] at h'; cases h'
      | some q =>
        obtain ⟨js, e⟩ := ints_pre a b q hq
        exact ⟨i :: js, by rw [e]; rfl⟩
    | _ => exact nomatch (show none = some is from h)
theorem ints_snoc : ∀ (a : List M) (m : M) (is : List Int), intsOf (a ++ [m]) = some is → ∃ js z, intsOf a = some js ∧ m = .int z ∧ is = js ++ [z]
  | [], m, is, h => by
    cases m with
    | int i => exact ⟨[], i, rfl, rfl, by cases h; rfl⟩
    | _ => exact nomatch (show none = some is from h)
  | x :: a, m, is, h => by
    cases x with
    | int i =>
      have h' : (intsOf (a ++ [m])).map (i :: ·) = some is := h
      cases hq : intsOf (a ++ [m]) with
      | none => rw [hq] at h'; cases h'
      | some q =>
        obtain ⟨js, z, e, em, eq⟩ := ints_snoc a m q hq
        refine ⟨i :: js, z, by show (intsOf a).map (i :: ·) = _; rw [e]; rfl, em, ?_⟩
        rw [hq] at h'
        cases h'
        rw [eq]; rfl
    | _ => exact nomatch (show none = some is from h)
theorem ints_out {call : String → List M → Store → R M} {tg : Tg} {ifs : To} {e : C} {γw : Env} {s : Src} {l : List M} {S : Store} {υ : Type} {a : List M} {F : List M → List Int → Store → R υ} {P : υ → Store → List Addr → Hp → Prop}
    (h : Out K Z mg E ((compLoop s (turnF call tg ifs e γw) l S).bind fun r S' => .of (intsOf (a ++ r)) fun is => F r is S') α H P) : ∃ is, intsOf a = some is := by
  cases hl : compLoop s (turnF call tg ifs e γw) l S with
  | bad => rw [hl] at h; exact False.elim h
  | exc x S' => exact absurd hl (loop_calm l S x S')
  | ok r S' =>
    rw [hl, R.bind_ok] at h
    cases hi : intsOf (a ++ r) with
    | none => rw [hi] at h; exact False.elim h
    | some is => exact ints_pre a r is hi
theorem mem_dedup {j : Int} : ∀ l : List Int, j ∈ dedup l ↔ j ∈ l
  | [] => Iff.rfl
  | a :: l => by
    unfold dedup
    by_cases ha : a ∈ l
    · rw [if_pos ha, mem_dedup l]
      exact ⟨List.mem_cons_of_mem _, fun h => (List.mem_cons.mp h).elim (fun q => by rw [q]; exact ha) id⟩
    · rw [if_neg ha, List.mem_cons, List.mem_cons, mem_dedup l]
theorem nodup_dedup : ∀ l : List Int, (dedup l).Nodup
  | [] => List.nodup_nil
  | a :: l => by
    unfold dedup
    by_cases ha : a ∈ l
    · rw [if_pos ha]; exact nodup_dedup l
    · rw [if_neg ha]
      exact List.nodup_cons.mpr ⟨fun q => ha ((mem_dedup l).mp q), nodup_dedup l⟩
end
section
variable {Φ : Tx} {x : SX} {X : Cx} {CX : CXT} {k : Nat} {E : XK}
/-- sorted({e for tg in it if ..}), ints -/
theorem l_ssc {al : Bool} {tg : Tg} {it : It'} {ifs : To} {el : C} {own : List Nat} {v t i : Expr} {ts : List Expr} {sc : Scope} {p p1 p2 : Pos} {n : Str} (g : Good Φ x X CX k E) (hn : n = Str.ofString "sorted") (hgl : x.gl n = true)
    (hb : blkC x.N x.sc sc (ownP x.N own) = true) (hs : (tg.slots.all fun j => decide (j ∈ own)) = true)
    (hi : PI X t i (rdI X Φ k E it)) (ho : ∀ z, foldedSetIterable i X.env z = pure z)
    (hg : ∀ (s : Shared) (H : Hp) (C : Addr) (cl : List (Str × Addr)) (fp : List Addr), PG (X.blk s H sc (compEnvC sc cl C X.env) fp) t (rdG X.K tg))
    (ht : ∀ (s : Shared) (H : Hp) (C : Addr) (cl : List (Str × Addr)) (fp : List Addr), PTs (X.blk s H sc (compEnvC sc cl C X.env) fp) ts (rdF X Φ k E00 ifs))
    (he : ∀ (s : Shared) (H : Hp) (C : Addr) (cl : List (Str × Addr)) (fp : List Addr), PE (X.blk s H sc (compEnvC sc cl C X.env) fp) v (rdC X Φ k E00 el)) :
    PE X (.Call (.Name n p1) [.SetComp v [⟨t, i, ts, 0⟩] sc p] [] p2) (rdC X Φ k E (.ssc al tg it ifs el own)) := by
  subst hn
  have slots : ∀ j ∈ tg.slots, j ∈ own := fun j hj => of_decide_eq_true (List.all_eq_true.mp hs j hj)
  have hbk : blkC X.N X.env.scope sc (ownP x.N own) = true := by rw [g.eN, g.eS]; exact hb
  refine PE.wk (pe_callB (cr_sortedSet g.calm) (g.gl hgl) (g.bl "sorted" (by decide)) (by decide +kernel) (pa_cons (pe_si (pos := p) g.calm g.nd hi (blkOk_by hbk) hg ht he ho) pa_nil)) ?_
  rintro σ H Q ⟨Z, α, S, γ, s, er, h⟩
  rw [ev_ssc] at h
  rw [own_snd]
  refine ⟨Z, α, S, γ, s, er, h.bind.imp fun src S1 α1 H1 t1 s1 h J WM D hD => ?_⟩
  obtain ⟨hlen, h⟩ := h.when
  obtain ⟨G, Y, w, hG, hY⟩ := WM.ex
  have er1 := er.tr s.muts t1
  refine si_it w (fun i H' => ∃ (α' : List Addr) (S' : Store) (ds : List Int) (am : List M) (is : List Int), Tr α1 H1 α' H' ∧ SR X.K (D :: Z) α' H' S' ∧ H' D = some (SetO X.w D (fun j => decide (j ∈ is)) ds.length) ∧ intsOf am = some is ∧ ds.Nodup ∧ (∀ j : Int, j ∈ ds ↔ j ∈ is) ∧ ds.length ≤ i ∧
    Out X.K Z X.mg E ((compLoop src (turnF (evalFn Φ k) tg ifs el (wipeE γ own)) (src.items.drop i) S').bind fun r S'' => .of (intsOf (am ++ r)) fun is => .when ((dedup is).length < 64) (mkL al ((isort (dedup is)).map M.int) S'')) α1 H1 (PM X.K Z Q)) ?_ ?_ ?_ ?_
  · refine ⟨α1, S1, [], [], [], Tr.new s1 hD, s1.reserve hD, ?_, rfl, List.nodup_nil, fun j => Iff.rfl, Nat.le_refl _, by simpa using h⟩
    rw [upd_same]
    simp
  · rintro i H' _ ⟨α', S', ds, am, is, t, s', e1, r, nd, mm, l, o⟩
    exact hG (D :: Z) α' H' S' (ZT.cons hD) t.q s' (ok_out o)
  · rintro i y H' H'' hi ⟨α', S', ds, am, is, t, s', e1, r, nd, mm, l, o⟩ hy
    have hd : src.items.drop i = src.items[i] :: src.items.drop (i + 1) := List.drop_eq_getElem_cons hi
    rw [hd] at o
    obtain ⟨hok, γ1, hb1, b, S2, ht1, hcase⟩ := turn_out o
    obtain ⟨ty, s'', ry⟩ := hY (D :: Z) α' H' S' i src.items[i] y H'' (ZT.cons hD) t.q s' hok (by simp [hi]) hy
    have tt := t.trans ty
    have e2 := ty.keep D _ e1 (s'.zs D List.mem_cons_self).1 trivial
    have erw := ER.wipe ((er1.trZ s1.muts tt (ZT.cons hD))) own
    refine tg_out erw ry hb1 fun σ1 er2 hw => ⟨by rw [hw own slots, wipe_wipe], ?_⟩
    refine ⟨D :: Z, α', S', γ1, s'', er2, ?_⟩
    rw [ht1]
    intro α2 H2 t2 s2
    have e3 := t2.keep D _ e2 (s''.zs D List.mem_cons_self).1 trivial
    rcases hcase with ⟨rfl, m, S3, hev, o⟩ | ⟨rfl, o⟩
    · show rdC X Φ k E00 el σ1 H2 _
      refine ⟨D :: Z, α2, S2, γ1, s2, er2.tr s''.muts t2, ?_⟩
      rw [hev]
      intro α3 H3 t3 s3 u ru
      have e4 := t3.keep D _ e3 (s2.zs D List.mem_cons_self).1 trivial
      have o' : Out X.K Z X.mg E ((compLoop src (turnF (evalFn Φ k) tg ifs el (wipeE γ own)) (src.items.drop (i + 1)) S3).bind fun r S'' => .of (intsOf ((am ++ [m]) ++ r)) fun is => .when ((dedup is).length < 64) (mkL al ((isort (dedup is)).map M.int) S'')) α1 H1 (PM X.K Z Q) := by
        simpa only [List.append_assoc] using o
      obtain ⟨is', ei⟩ := ints_out o'
      obtain ⟨js, z, ej, rfl, rfl⟩ := ints_snoc am m is' ei
      rw [r] at ej
      cases ej
      have sb : scanBound = 4096 := rfl
      refine ⟨z, _, _, rep_int ru, e4, by omega, α3, S3, if z ∈ is then ds else ds ++ [z], am ++ [.int z], is ++ [z], ?_, ?_, ?_, ei, ?_, ?_, ?_, o'⟩
      · exact Tr.off ((tt.trans t2).trans t3) hD (s3.zs D List.mem_cons_self).1
      · exact SR.off List.mem_cons_self e4 trivial s3
      · rw [upd_same]
        have f1 : (fun j => decide (j ∈ is) || decide (j = z)) = fun j => decide (j ∈ is ++ [z]) := by
          funext j
          rw [← Bool.decide_or]
          exact decide_eq_decide.mpr (by simp)
        have f2 : (if decide (z ∈ is) = true then ds.length else ds.length + 1) = (if z ∈ is then ds else ds ++ [z]).length := by
          by_cases hz : z ∈ is <;> simp [hz]
        rw [f1, f2]
      · by_cases hz : z ∈ is
        · rw [if_pos hz]; exact nd
        · rw [if_neg hz, List.nodup_append]
          exact ⟨nd, by simp, fun a ha b hb q => hz ((mm z).mp (by rw [← List.mem_singleton.mp hb, ← q]; exact ha))⟩
      · intro j
        by_cases hz : z ∈ is
        · rw [if_pos hz, mm j, List.mem_append, List.mem_singleton]
          exact ⟨.inl, fun q => q.elim id fun q => by rw [q]; exact hz⟩
        · rw [if_neg hz, List.mem_append, List.mem_append, mm j]
      · by_cases hz : z ∈ is
        · rw [if_pos hz]; omega
        · rw [if_neg hz, List.length_append]; simp; omega
    · exact ⟨α2, S2, ds, am, is, tt.trans t2, s2, e3, r, nd, mm, by omega, o⟩
  · rintro H' ⟨α', S', ds, am, is, t, s', e1, r, nd, mm, l, o⟩
    rw [List.drop_length] at o
    obtain ⟨_, o⟩ := end_out (call := evalFn Φ k) o
    rw [List.append_nil, r] at o
    obtain ⟨c, o⟩ := Out.when o
    have perm : ds.Perm (dedup is) := (List.perm_ext_iff_of_nodup nd (nodup_dedup is)).mpr fun j => (mm j).trans (mem_dedup is).symm
    have hl : ds.length = (dedup is).length := perm.length_eq
    refine ⟨D, _, _, rfl, e1, by omega, fun ns q sn mn ln hq => ?_⟩
    have same : ns = isort (dedup is) := by
      refine isort_same ?_ (sn.imp fun h => Int.le_of_lt h)
      refine (List.perm_ext_iff_of_nodup (sn.imp fun h => Int.ne_of_lt h) (nodup_dedup is)).mpr fun j => ?_
      rw [mn j, mem_dedup]
      exact decide_eq_true_iff
    have sZ : SR X.K Z α' H' S' := s'.sub fun a ha => List.mem_cons_of_mem _ ha
    rw [same]
    have o2 : Out X.K Z X.mg E (mkL al ((isort (dedup is)).map M.int) S') α' H' (PM X.K Z Q) := Out.tr t o
    exact Out.mkL sZ (RepL.of_ints _) hq o2
end
end Mi

namespace Mi
open PySem PySem.Spec L2
variable [Tabs]
/-! ### any, all of a generator expression -/
theorem ev_anyg {call : String → List M → Store → R M} {neg : Bool} {tg : Tg} {it : It'} {ifs : To} {e : C} {own : List Nat} {γ : Env} {S : Store} : ev call (.anyg neg tg it ifs e own) γ S =
    (evI call it γ S).bind fun s S => .when (s.items.length ≤ big) (anyLoop s (turnF call tg ifs e (wipeE γ own)) neg s.items S) := by
  simp only [ev]; rfl
section
variable {K : PySem.W.Frag} {mg : Str → Option Value} {E : XK} {Z α : List Addr} {H : Hp}
theorem Tr.tabbed {P : Addr} {H' : Hp} {S : Store} (s : SR K Z α H S) (hP : TabG H P) (t : GxR.Tabbed P H H') : Tr α H α H' := by
  obtain ⟨ps, hp, _⟩ := hP
  obtain ⟨⟨qs, hq, ok⟩, hk⟩ := t
  have ne : ∀ {a o}, H a = some o → NoTb o → a ≠ P := fun {a o} h nt z => by rw [z, hp] at h; cases h; exact nt
  refine ⟨fun a o h _ nt => by rw [hk a (ne h nt)]; exact h, fun a rs h => ?_, ⟨[], by simp, by simp⟩, fun a ha => ?_⟩
  · by_cases e : a = P
    · rw [e]; exact ⟨qs, hq, fun _ => ok⟩
    · exact ⟨rs, by rw [hk a e]; exact h, id⟩
  · by_cases e : a = P
    · rw [e, hq]; exact fun z => by cases z
    · rw [hk a e]; exact s.live a ha
theorem SR.tabbed {P : Addr} {H' : Hp} {S : Store} (s : SR K Z α H S) (hP : TabG H P) (t : GxR.Tabbed P H H') : SR K Z α H' S := by
  refine s.tr (Tr.tabbed s hP t) fun a ha => t.2 a fun z => ?_
  obtain ⟨u, e, m⟩ := s.muts a ha
  obtain ⟨ps, hp, _⟩ := hP
  rw [z, hp] at e; cases e; exact m
theorem turn_outA {call : String → List M → Store → R M} {neg : Bool} {tg : Tg} {ifs : To} {e : C} {γw : Env} {s : Src} {m : M} {rest : List M} {S : Store} {P : M → Store → List Addr → Hp → Prop}
    (h : Out K Z mg E (anyLoop s (turnF call tg ifs e γw) neg (m :: rest) S) α H P) : s.ok S ∧ ∃ γ1, bindT tg m γw = some γ1 ∧ ∃ b S1, evt call ifs γ1 S = .ok b S1 ∧
      ((b = true ∧ ∃ c S2, ev call e γ1 S1 = .ok (.bl c) S2 ∧ if c = neg then Out K Z mg E (anyLoop s (turnF call tg ifs e γw) neg rest S2) α H P else Out K Z mg E (.ok (.bl c) S2) α H P) ∨
       (b = false ∧ Out K Z mg E (anyLoop s (turnF call tg ifs e γw) neg rest S1) α H P)) := by
  unfold anyLoop at h
  by_cases hok : s.ok S
  · refine ⟨hok, ?_⟩
    rw [R.when_true hok] at h
    cases hb : bindT tg m γw with
    | none => rw [show turnF call tg ifs e γw m S = .bad by unfold turnF; rw [hb]; rfl] at h; exact False.elim h
    | some γ1 =>
      refine ⟨γ1, rfl, ?_⟩
      cases ht : evt call ifs γ1 S with
      | bad => rw [show turnF call tg ifs e γw m S = .bad by unfold turnF; rw [hb, R.of_some, ht]; rfl] at h; exact False.elim h
      | exc y S' => rw [show turnF call tg ifs e γw m S = .bad by unfold turnF; rw [hb, R.of_some, ht]; rfl] at h; exact False.elim h
      | ok b S1 =>
        refine ⟨b, S1, rfl, ?_⟩
        cases b with
        | false =>
          rw [show turnF call tg ifs e γw m S = .ok none S1 by unfold turnF; rw [hb, R.of_some, ht]; rfl] at h
          refine .inr ⟨rfl, ?_⟩
          rw [R.bind_ok] at h
          exact h
        | true =>
          refine .inl ⟨rfl, ?_⟩
          cases he : ev call e γ1 S1 with
          | bad => rw [show turnF call tg ifs e γw m S = .bad by unfold turnF; rw [hb, R.of_some, ht, R.bind_ok, if_pos rfl, he]; rfl] at h; exact False.elim h
          | exc y S' => rw [show turnF call tg ifs e γw m S = .bad by unfold turnF; rw [hb, R.of_some, ht, R.bind_ok, if_pos rfl, he]; rfl] at h; exact False.elim h
          | ok y S2 =>
            rw [show turnF call tg ifs e γw m S = .ok (some y) S2 by unfold turnF; rw [hb, R.of_some, ht, R.bind_ok, if_pos rfl, he]; rfl] at h
            rw [R.bind_ok] at h
            cases y with
            | bl c =>
              refine ⟨c, S2, rfl, ?_⟩
              dsimp only at h
              by_cases hc : c = neg
              · rw [if_pos hc] at h ⊢; exact h
              · rw [if_neg hc] at h ⊢; exact h
            | _ => exact False.elim h
  · rw [show R.when (s.ok S) _ = .bad from if_neg hok] at h
    exact False.elim h
theorem end_outA {f : M → Store → R (Option M)} {neg : Bool} {s : Src} {S : Store} {P : M → Store → List Addr → Hp → Prop}
    (h : Out K Z mg E (anyLoop s f neg [] S) α H P) : s.ok S ∧ Out K Z mg E (.ok (.bl neg) S) α H P := by
  unfold anyLoop at h
  by_cases hok : s.ok S
  · rw [R.when_true hok] at h
    exact ⟨hok, h⟩
  · rw [show R.when (s.ok S) _ = .bad from if_neg hok] at h
    exact False.elim h
end
section
variable {Φ : Tx} {x : SX} {X : Cx} {CX : CXT} {k : Nat} {E : XK}
theorem l_anyg {neg : Bool} {tg : Tg} {it : It'} {ifs : To} {el : C} {own : List Nat} {P : Addr} (hP : P ∈ Tabs.T) (hs : (tg.slots.all fun j => decide (j ∈ own)) = true) :
    ∀ σ H Q, rdC X Φ k E (.anyg neg tg it ifs el own) σ H Q → tAG neg P (rdI X Φ k E it) (rdG X.K tg) (rdF X Φ k E00 ifs) (rdC X Φ k E00 el) own σ H Q := by
  have slots : ∀ j ∈ tg.slots, j ∈ own := fun j hj => of_decide_eq_true (List.all_eq_true.mp hs j hj)
  rintro σ H Q ⟨Z, α, S, γ, s, er, h⟩
  rw [ev_anyg] at h
  refine ⟨Z, α, S, γ, s, er, h.bind.imp fun src S1 α1 H1 t1 s1 h J WM => ⟨s1.tb P hP, fun H2 htab => ?_⟩⟩
  obtain ⟨hlen, h⟩ := h.when
  obtain ⟨G, Y, w, hG, hY⟩ := WM.ex
  have er1 := er.tr s.muts t1
  have t0 := Tr.tabbed s1 (s1.tb P hP) htab
  have s0 := s1.tabbed (s1.tb P hP) htab
  refine ⟨fun i m H' => m = src.items.length - i ∧ i ≤ src.items.length ∧ ∃ α' S', Tr α1 H1 α' H' ∧ SR X.K Z α' H' S' ∧ Out X.K Z X.mg E (anyLoop src (turnF (evalFn Φ k) tg ifs el (wipeE γ own)) neg (src.items.drop i) S') α' H' (PM X.K Z Q),
    ⟨_, rfl, Nat.zero_le _, α1, S1, t0, s0, by simpa using Out.tr t0 h⟩, ?_⟩
  rintro i m H' ⟨rfl, hi, α', S', t, s', o⟩
  by_cases hlt : i < src.items.length
  · have hd : src.items.drop i = src.items[i] :: src.items.drop (i + 1) := List.drop_eq_getElem_cons hlt
    rw [hd] at o
    obtain ⟨hok, γ1, hb1, b, S2, ht1, hcase⟩ := turn_outA o
    refine .inr ⟨w.goes i H' hlt (hG Z α' H' S' ZT.refl t.q s' hok), fun H3 => i + 1 ≤ src.items.length ∧ ∃ α' S', Tr α1 H1 α' H3 ∧ SR X.K Z α' H3 S' ∧ Out X.K Z X.mg E (anyLoop src (turnF (evalFn Φ k) tg ifs el (wipeE γ own)) neg (src.items.drop (i + 1)) S') α' H3 (PM X.K Z Q),
      fun H3 ⟨hi3, q⟩ => ⟨src.items.length - (i + 1), by omega, rfl, hi3, q⟩, fun y H'' hy => ?_⟩
    obtain ⟨ty, s'', ry⟩ := hY Z α' H' S' i src.items[i] y H'' ZT.refl t.q s' hok (by simp [hlt]) (w.yields i H' y H'' hlt (hG Z α' H' S' ZT.refl t.q s' hok) hy)
    have tt := t.trans ty
    have erw := ER.wipe (er1.tr s1.muts tt) own
    refine tg_out erw ry hb1 fun σ1 er2 hw => ⟨by rw [hw own slots, wipe_wipe], ?_⟩
    refine ⟨Z, α', S', γ1, s'', er2, ?_⟩
    rw [ht1]
    intro α2 H2 t2 s2
    rcases hcase with ⟨rfl, c, S3, hev, o⟩ | ⟨rfl, o⟩
    · show rdC X Φ k E00 el σ1 H2 _
      refine ⟨Z, α2, S2, γ1, s2, er2.tr s''.muts t2, ?_⟩
      rw [hev]
      intro α3 H3 t3 s3 u ru
      refine ⟨c, rep_bl ru, ?_⟩
      have t4 := (ty.trans t2).trans t3
      by_cases hc : c = neg
      · rw [if_pos hc] at o ⊢
        exact ⟨by omega, α3, S3, t.trans t4, s3, Out.tr t4 o⟩
      · rw [if_neg hc] at o ⊢
        exact out_bl s3 (Out.tr t4 o)
    · exact ⟨by omega, α2, S2, tt.trans t2, s2, Out.tr (ty.trans t2) o⟩
  · have hi' : i = src.items.length := by omega
    subst hi'
    rw [List.drop_length] at o
    obtain ⟨hok, o⟩ := end_outA o
    exact .inl ⟨w.stops H' (hG Z α' H' S' ZT.refl t.q s' hok), out_bl s' o⟩
/-! ### a dict's display -/
def trsOf (X : Cx) (Φ : Tx) (k : Nat) (E : XK) : List String → Cs → List (TE × TE)
  | q :: ks, .cons a r => (tC (.str (Str.ofString q)), rdC X Φ k E a) :: trsOf X Φ k E ks r
  | _, _ => []
theorem pairs_read {σ : Slots} : ∀ (ks : List String) (es : Cs) (H : Hp) (R : List V → Hp → Prop) (Q : List (V × V) → Hp → Prop), ks.length = es.len → tR X.K X.mg E (evs (evalFn Φ k) es) σ H (fun Z ms _ α' H' => ∀ vs, RepL X.K Z α' H' ms vs → R vs H') →
    (∀ vs H', vs.length = ks.length → R vs H' → Q ((ks.zip vs).map fun q => (V.str (Str.ofString q.1), q.2)) H') → tPairs (trsOf X Φ k E ks es) σ H Q
  | [], .nil, H, R, Q, _, ⟨Z, α, S, γ, s, er, h⟩, hq => by
    simp only [evs] at h
    exact hq [] H rfl (h.now s [] (by simp only [RepL]))
  | [], .cons a r, H, R, Q, hl, _, _ => by simp [Cs.len] at hl
  | q :: ks, .nil, H, R, Q, hl, _, _ => by simp [Cs.len] at hl
  | q :: ks, .cons a r, H, R, Q, hl, ⟨Z, α, S, γ, s, er, h⟩, hq => by
    simp only [evs] at h
    show rdC X Φ k E a σ H _
    refine ⟨Z, α, S, γ, s, er, h.bind.imp fun m S1 α1 H1 t1 s1 h v rv => ?_⟩
    refine pairs_read ks r H1 (fun vs H' => R (v :: vs) H') _ (by simpa [Cs.len] using hl) ⟨Z, α1, S1, γ, s1, er.tr s.muts t1, h.bind.imp fun ms S2 α2 H2 t2 s2 h us ru => ?_⟩ fun vs H' hlen hr => ?_
    · exact h.now s2 (v :: us) (by simp only [RepL]; exact ⟨v, us, rfl, Rep.tr s1.muts t2 _ _ rv, ru⟩)
    · exact hq (v :: vs) H' (by simp [hlen]) hr
theorem merge_kvs : ∀ (ks : List String) (ms : List M) (vs : List V), ms.length = vs.length → ((ks.zip vs).map fun q => ((Sum.inr (Str.ofString q.1) : Key), q.2)).map (·.1) = (((ks.map fun q => (Sum.inr (Str.ofString q) : Key)).zip ms)).map (·.1)
  | [], _, _, _ => rfl
  | q :: ks, [], [], _ => rfl
  | q :: ks, m :: ms, v :: vs, h => by
    simp only [List.zip_cons_cons, List.map_cons]
    rw [merge_kvs ks ms vs (by simpa using h)]
  | q :: ks, [], v :: vs, h => by cases h
  | q :: ks, m :: ms, [], h => by cases h
theorem l_dct {ks : List String} {es : Cs} {kl : List (Option Expr)} {l : List Expr} {pos : Pos} (h15 : kl.length ≤ 15) (hl : kl.length = l.length) (hk : kl.length = ks.length) (hes : ks.length = es.len) (hall : kl.all (·.isSome) = true) (hp : PPs X pos kl l (trsOf X Φ k E ks es)) :
    PE X (.Dict kl l pos) (rdC X Φ k E (.dct ks es)) := by
  cases kl with
  | nil =>
    have e1 : l = [] := List.eq_nil_of_length_eq_zero (by rw [← hl]; rfl)
    have e2 : ks = [] := List.eq_nil_of_length_eq_zero (by rw [← hk]; rfl)
    subst e1 e2
    have e3 : es = .nil := by cases es with
      | nil => rfl
      | cons a r => simp [Cs.len] at hes
    subst e3
    refine PE.wk pe_dnewK ?_
    rintro σ H Q ⟨Z, α, S, γ, s, er, h⟩
    simp only [ev, evs, R.bind_ok] at h
    obtain ⟨_, h⟩ := h.when
    exact fun p hp => Out.mkD (kvs := []) s rfl (by simp only [List.map_nil, List.zip_nil_left, mergeM, List.foldl_nil, RepL]) hp h
  | cons k0 kl =>
    refine PE.wk (pe_disp hp hall hl (by simp) h15) ?_
    rintro σ H Q ⟨Z, α, S, γ, s, er, h⟩ p hp
    simp only [ev] at h
    have tn := Tr.new (o := .dK []) s hp
    have sr := s.reserve (o := .dK []) hp
    refine pairs_read ks es _ (fun vs H2 => H2 p = some (.dK []) ∧ (vs.length = ks.length → Q (.ref p) (upd H2 p (.dK (mergeK [] ((ks.zip vs).map fun q => (Sum.inr (Str.ofString q.1), q.2))))))) _ hes ⟨p :: Z, α, S, γ, sr, er.trZ s.muts tn (ZT.cons hp), ?_⟩ fun vs H2 hlen hR => ?_
    · cases he : evs (evalFn Φ k) es γ S with
      | bad => rw [he] at h; exact False.elim h
      | exc y S1 =>
        rw [he] at h
        intro α' H' cv d t s' ex
        have h : EW X.K Z X.mg E y S1 α H := h
        obtain ⟨e1, dd, fs, e2, e3, e4⟩ := ex
        exact h α' H' cv d (tn.trans t) (s'.sub fun a ha => List.mem_cons_of_mem _ ha) ⟨e1, dd, fs, e2, e3, fun f m hm => let ⟨v, q1, q2⟩ := e4 f m hm; ⟨v, q1, Rep.sub (fun a ha => List.mem_cons_of_mem _ ha) _ _ q2⟩⟩
      | ok ms S1 =>
        rw [he, R.bind_ok] at h
        obtain ⟨⟨c1, c2⟩, h⟩ := h.when
        intro α' H' t s' vs rvs
        have nD := (s'.zs p List.mem_cons_self).1
        have e := t.keep p _ upd_same (sr.zs p List.mem_cons_self).1 trivial
        refine ⟨e, fun hlen => ?_⟩
        have nZ : p ∉ Z := fun hz => (s.zs p hz).2 hp
        have mlen := rvs.length
        have rz : RepL X.K (p :: Z) α' H' ((((ks.map fun q => (Sum.inr (Str.ofString q) : Key)).zip ms)).map (·.2)) (((ks.zip vs).map fun q => ((Sum.inr (Str.ofString q.1) : Key), q.2)).map (·.2)) := by
          have a1 : (((ks.map fun q => (Sum.inr (Str.ofString q) : Key)).zip ms)).map (·.2) = ms := by
            rw [List.map_snd_zip]; simp [c1]
          have a2 : ((ks.zip vs).map fun q => ((Sum.inr (Str.ofString q.1) : Key), q.2)).map (·.2) = vs := by
            rw [List.map_map]
            show (ks.zip vs).map (·.2) = vs
            rw [List.map_snd_zip]; omega
          rw [a1, a2]; exact rvs
        obtain ⟨m1, m2⟩ := merge_rep (l := []) (kvs := []) (merge_kvs ks ms vs mlen) rz rfl (by simp only [List.map_nil, RepL])
        have t0 := tn.trans t
        have t1 := Tr.off (o := .dK (mergeK [] ((ks.zip vs).map fun q => (Sum.inr (Str.ofString q.1), q.2)))) t0 hp nD
        have s1 := SR.off (o := .dK (mergeK [] ((ks.zip vs).map fun q => (Sum.inr (Str.ofString q.1), q.2)))) List.mem_cons_self e trivial s'
        have s2 := s1.joinO nZ (ob := .dic (mergeM ((ks.map fun q => (Sum.inr (Str.ofString q) : Key)).zip ms))) ⟨_, upd_same, m1, RepL.off List.mem_cons_self e trivial _ _ m2⟩
        have tD : Tr α H (α' ++ [p]) (upd H' p (.dK (mergeK [] ((ks.zip vs).map fun q => (Sum.inr (Str.ofString q.1), q.2))))) := by
          obtain ⟨β, eβ, hβ⟩ := t1.ext
          refine ⟨t1.keep, t1.tbl, ⟨β ++ [p], by rw [eβ, List.append_assoc], fun a ha => ?_⟩, fun a ha => ?_⟩
          · rcases List.mem_append.mp ha with ha | ha
            · exact hβ a ha
            · rw [List.mem_singleton.mp ha]; exact hp
          · rcases List.mem_append.mp ha with ha | ha
            · exact t1.live a ha
            · rw [List.mem_singleton.mp ha, upd_same]; exact fun z => by cases z
        refine h (α' ++ [p]) _ tD s2 (.ref p) ?_
        simp only [Rep]
        refine ⟨p, ?_, rfl⟩
        rw [List.getElem?_append_right (by rw [s'.len]; exact Nat.le_refl _), s'.len, Nat.sub_self]
        rfl
    · refine ⟨hR.1, (ks.zip vs).map fun q => (Sum.inr (Str.ofString q.1), q.2), ?_, ?_, hR.2 hlen⟩
      · rw [List.map_map]; rfl
      · rw [List.length_map, List.length_zip]
        have : ks.length ≤ 15 := by rw [← hk]; exact h15
        omega
theorem gen_fold {e : Expr} (h1 : odd e = false) (h2 : notLst e = true) (env : PySem.Env) (v : Value) : genFold e env v = pure v := by
  cases e <;> first
    | rfl
    | (exfalso; exact Bool.false_ne_true h1.symm)
    | (exfalso; exact Bool.false_ne_true h2)
theorem l_anygE {neg : Bool} {tg : Tg} {it : It'} {ifs : To} {el : C} {own : List Nat} {v t i : Expr} {ts : List Expr} {sc : Scope} {n : Str} {p gp cp : Pos} (g : Good Φ x X CX k E) (hn : n = Str.ofString (if neg = true then "all" else "any")) (hgl : x.gl n = true) (hx : x.gx = true)
    (hgc : genC x.N x.sc sc (ownP x.N own) = true) (hs : (tg.slots.all fun j => decide (j ∈ own)) = true) (hnl : notLst i = true) (ho : odd i = false) (hi : PI X t i (rdI X Φ k E it))
    (hg : ∀ (s : Shared) (H : Hp) (C : Addr) (cl : List (Str × Addr)) (code : Value) (fp : List Addr), PG (gnx X s H (genEnv sc cl C code builtinsNs X.env) fp X.A.in1.in1) t (rdG X.K tg))
    (ht : ∀ (s : Shared) (H : Hp) (C : Addr) (cl : List (Str × Addr)) (code : Value) (fp : List Addr), PTs (gnx X s H (genEnv sc cl C code builtinsNs X.env) fp X.A.in1.in1) ts (rdF X Φ k E00 ifs))
    (he : ∀ (s : Shared) (H : Hp) (C : Addr) (cl : List (Str × Addr)) (code : Value) (fp : List Addr), PE (gnx X s H (genEnv sc cl C code builtinsNs X.env) fp X.A.in1.in1) v (rdC X Φ k E00 el)) :
    PE X (.Call (.Name n p) [.GeneratorExp v [⟨t, i, ts, 0⟩] sc gp] [] cp) (rdC X Φ k E (.anyg neg tg it ifs el own)) := by
  obtain ⟨hr, c, P, hcode, TB, hP⟩ := g.gxr hx
  unfold genC at hgc
  simp only [Bool.and_eq_true, decide_eq_true_eq, List.all_eq_true] at hgc
  obtain ⟨⟨⟨hb, hco⟩, hnc⟩, hdot⟩ := hgc
  have ok : BlkOk X.N X.env.scope sc (ownP x.N own) := blkOk_by (by rw [g.eN, g.eS]; exact hb)
  have hd : X.A.depth < recursionLimit := by have := hr.dp; omega
  have hm := fun (q : String) (hq : q ∈ bnames) => g.bl q hq
  cases neg with
  | false =>
    have hn : n = Str.ofString "any" := hn
    subst hn
    refine PE.wk (pe_anyG g.calm hd g.nd (g.gl hgl) (hm "any" (by decide)) TB hcode ok hco hnc hdot hi hg ht he (fun v => gen_fold ho hnl _ v)) fun σ H Q h => ?_
    rw [own_snd]
    exact l_anyg hP hs σ H Q h
  | true =>
    have hn : n = Str.ofString "all" := hn
    subst hn
    refine PE.wk (pe_allG g.calm hd g.nd (g.gl hgl) (hm "all" (by decide)) TB hcode ok hco hnc hdot hi hg ht he (fun v => gen_fold ho hnl _ v)) fun σ H Q h => ?_
    rw [own_snd]
    exact l_anyg hP hs σ H Q h
theorem ks_len : ∀ {ks : List String} {kl : List (Option Expr)}, chkKs ks kl = true → kl.length = ks.length ∧ kl.all (·.isSome) = true
  | [], [], _ => ⟨rfl, rfl⟩
  | [], _ :: _, h => by unfold chkKs at h; cases h
  | _ :: _, [], h => by unfold chkKs at h; cases h
  | k :: ks, o :: kl, h => by
    unfold chkKs at h
    split at h
    · rename_i q; cases q
    · rename_i q1 q2
      cases q1; cases q2
      simp only [Bool.and_eq_true] at h
      obtain ⟨h1, h2⟩ := ks_len h.2
      exact ⟨by simp [h1], by simpa using h2⟩
    · cases h
theorem cs_len : ∀ {cs : Cs} {x : SX} {l : List Expr}, chkCs Φ cs x l = true → l.length = cs.len
  | .nil, x, l, h => by
    cases l with
    | nil => rfl
    | cons e es => simp [chkCs] at h
  | .cons a r, x, l, h => by
    cases l with
    | nil => simp [chkCs] at h
    | cons e es =>
      simp only [chkCs, Bool.and_eq_true] at h
      simp [Cs.len, cs_len h.2]
end
end Mi

namespace Mi
open PySem PySem.Spec L2
variable [Tabs]
/-! ### comprehensions with two fors -/
def rowF (call : String → List M → Store → R M) (tg : Tg) (it2 : It') (tg2 : Tg) (ifs : To) (e : C) (own2 : List Nat) (γw : Env) (x : M) (S : Store) : R (List M) := .of (bindT tg x γw) fun γ1 =>
  (evI call it2 γ1 S).calm.bind fun s2 S => .when (s2.items.length ≤ 1000) (compLoop s2 (turnF call tg2 ifs e (wipeE γ1 own2)) s2.items S)
theorem ev_lc2 {call : String → List M → Store → R M} {al : Bool} {tg tg2 : Tg} {it it2 : It'} {ifs : To} {e : C} {own own2 : List Nat} {γ : Env} {S : Store} : ev call (.lc2 al tg it tg2 it2 ifs e own own2) γ S =
    (evI call it γ S).bind fun s S => .when (s.items.length ≤ 1000) ((rowLoop s (rowF call tg it2 tg2 ifs e own2 (wipeE γ own)) s.items S).bind fun ms S => mkL al ms S) := by
  simp only [ev]; rfl
section
variable {K : PySem.W.Frag} {mg : Str → Option Value} {E : XK} {Z α : List Addr} {H : Hp}
theorem row_out {call : String → List M → Store → R M} {tg tg2 : Tg} {it2 : It'} {ifs : To} {e : C} {own2 : List Nat} {γw : Env} {s : Src} {m : M} {rest : List M} {S : Store} {υ : Type} {G : List M → Store → R υ} {P : υ → Store → List Addr → Hp → Prop}
    (h : Out K Z mg E ((rowLoop s (rowF call tg it2 tg2 ifs e own2 γw) (m :: rest) S).bind G) α H P) : s.ok S ∧ ∃ γ1, bindT tg m γw = some γ1 ∧ ∃ s2 S1, evI call it2 γ1 S = .ok s2 S1 ∧ s2.items.length ≤ 1000 ∧
      Out K Z mg E ((compLoop s2 (turnF call tg2 ifs e (wipeE γ1 own2)) s2.items S1).bind fun l S2 => (rowLoop s (rowF call tg it2 tg2 ifs e own2 γw) rest S2).bind fun r S3 => G (l ++ r) S3) α H P := by
  unfold rowLoop at h
  by_cases hok : s.ok S
  · refine ⟨hok, ?_⟩
    rw [R.when_true hok] at h
    cases hb : bindT tg m γw with
    | none => rw [show rowF call tg it2 tg2 ifs e own2 γw m S = .bad by unfold rowF; rw [hb]; rfl] at h; exact False.elim h
    | some γ1 =>
      refine ⟨γ1, rfl, ?_⟩
      cases ht : evI call it2 γ1 S with
      | bad => rw [show rowF call tg it2 tg2 ifs e own2 γw m S = .bad by unfold rowF; rw [hb, R.of_some, ht]; rfl] at h; exact False.elim h
      | exc y S' => rw [show rowF call tg it2 tg2 ifs e own2 γw m S = .bad by unfold rowF; rw [hb, R.of_some, ht]; rfl] at h; exact False.elim h
      | ok s2 S1 =>
        refine ⟨s2, S1, rfl, ?_⟩
        by_cases hl : s2.items.length ≤ 1000
        · refine ⟨hl, ?_⟩
          rw [show rowF call tg it2 tg2 ifs e own2 γw m S = compLoop s2 (turnF call tg2 ifs e (wipeE γ1 own2)) s2.items S1 by
            unfold rowF; rw [hb, R.of_some, ht]; show R.bind (.ok s2 S1) _ = _; rw [R.bind_ok, R.when_true hl]] at h
          rw [bind_assoc] at h
          have e : ∀ l S2, ((rowLoop s (rowF call tg it2 tg2 ifs e own2 γw) rest S2).bind fun r S2 => R.ok (l ++ r) S2).bind G = (rowLoop s (rowF call tg it2 tg2 ifs e own2 γw) rest S2).bind fun r S3 => G (l ++ r) S3 := fun l S2 => by rw [bind_assoc]; rfl
          simp only [e] at h
          exact h
        · rw [show rowF call tg it2 tg2 ifs e own2 γw m S = .bad by unfold rowF; rw [hb, R.of_some, ht]; show R.bind (.ok s2 S1) _ = _; rw [R.bind_ok]; exact if_neg hl] at h
          exact False.elim h
  · rw [show R.when (s.ok S) _ = .bad from if_neg hok] at h
    exact False.elim h
theorem row_end {f : M → Store → R (List M)} {s : Src} {S : Store} {υ : Type} {G : List M → Store → R υ} {P : υ → Store → List Addr → Hp → Prop}
    (h : Out K Z mg E ((rowLoop s f [] S).bind G) α H P) : s.ok S ∧ Out K Z mg E (G [] S) α H P := by
  unfold rowLoop at h
  by_cases hok : s.ok S
  · rw [R.when_true hok] at h
    exact ⟨hok, h⟩
  · rw [show R.when (s.ok S) _ = .bad from if_neg hok] at h
    exact False.elim h
end
section
variable {Φ : Tx} {x : SX} {X : Cx} {CX : CXT} {k : Nat} {E : XK}
/-- [e for tg in it for tg2 in it2 if ..] -/
theorem l_lc2 {al : Bool} {tg tg2 : Tg} {it it2 : It'} {ifs : To} {el : C} {own own2 : List Nat} (hs : (tg.slots.all fun j => decide (j ∈ own)) = true) (hs2 : (tg2.slots.all fun j => decide (j ∈ own2)) = true) :
    ∀ σ H Q, rdC X Φ k E (.lc2 al tg it tg2 it2 ifs el own own2) σ H Q → tLc2 (rdI X Φ k E it) (rdG X.K tg) (rdF X Φ k E00 .no) (rdI X Φ k E00 it2) (rdG X.K tg2) (rdF X Φ k E00 ifs) (rdC X Φ k E00 el) own own2 σ H Q := by
  have slots : ∀ j ∈ tg.slots, j ∈ own := fun j hj => of_decide_eq_true (List.all_eq_true.mp hs j hj)
  have slots2 : ∀ j ∈ tg2.slots, j ∈ own2 := fun j hj => of_decide_eq_true (List.all_eq_true.mp hs2 j hj)
  rintro σ H Q ⟨Z, α, S, γ, s, er, h⟩
  rw [ev_lc2] at h
  refine ⟨Z, α, S, γ, s, er, h.bind.imp fun src S1 α1 H1 t1 s1 h J WM D hD => ?_⟩
  obtain ⟨hlen, h⟩ := h.when
  obtain ⟨G, Y, w, hG, hY⟩ := WM.ex
  have bl := big_line
  have bg : big = 1000000 := rfl
  have er1 := er.tr s.muts t1
  refine ⟨fun i m H' => m = src.items.length - i ∧ i ≤ src.items.length ∧ ∃ α' S' acc am, Tr α1 H1 α' H' ∧ SR X.K (D :: Z) α' H' S' ∧ H' D = some (.lst acc) ∧ RepL X.K (D :: Z) α' H' am acc ∧ acc.length ≤ i * 1000 ∧
    Out X.K Z X.mg E ((rowLoop src (rowF (evalFn Φ k) tg it2 tg2 ifs el own2 (wipeE γ own)) (src.items.drop i) S').bind fun r S'' => mkL al (am ++ r) S'') α1 H1 (PM X.K Z Q), ⟨_, rfl, Nat.zero_le _, α1, S1, [], [], Tr.new s1 hD, s1.reserve hD, upd_same, by simp only [RepL], Nat.zero_le _, by simpa using h⟩, ?_⟩
  rintro i m H' ⟨rfl, hi, α', S', acc, am, t, s', e1, r, l, o⟩
  by_cases hlt : i < src.items.length
  · have hd : src.items.drop i = src.items[i] :: src.items.drop (i + 1) := List.drop_eq_getElem_cons hlt
    rw [hd] at o
    obtain ⟨hok, γ1, hb1, s2, S2, hev, hl2, o⟩ := row_out o
    have hg := hG (D :: Z) α' H' S' (ZT.cons hD) t.q s' hok
    refine .inr ⟨w.goes i H' hlt hg, fun H3 => i + 1 ≤ src.items.length ∧ ∃ α' S' acc am, Tr α1 H1 α' H3 ∧ SR X.K (D :: Z) α' H3 S' ∧ H3 D = some (.lst acc) ∧ RepL X.K (D :: Z) α' H3 am acc ∧ acc.length ≤ (i + 1) * 1000 ∧
      Out X.K Z X.mg E ((rowLoop src (rowF (evalFn Φ k) tg it2 tg2 ifs el own2 (wipeE γ own)) (src.items.drop (i + 1)) S').bind fun r S'' => mkL al (am ++ r) S'') α1 H1 (PM X.K Z Q), fun H3 p => ⟨_, by omega, rfl, p.1, p.2⟩, fun y H'' hy => ?_⟩
    obtain ⟨ty, s'', ry⟩ := hY (D :: Z) α' H' S' i src.items[i] y H'' (ZT.cons hD) t.q s' hok (by simp [hlt]) (w.yields i H' y H'' hlt hg hy)
    have tt := t.trans ty
    have e2 : H'' D = some (.lst acc) := ty.keep D _ e1 (s'.zs D List.mem_cons_self).1 trivial
    have r2 := RepL.tr s'.muts ty _ _ r
    have erw := ER.wipe ((er1.trZ s1.muts tt (ZT.cons hD))) own
    refine tg_out erw ry hb1 fun σ1 er2 hw => ⟨by rw [hw own slots, wipe_wipe], ?_⟩
    refine ⟨D :: Z, α', S', γ1, s'', er2, ?_⟩
    rw [show evt (evalFn Φ k) .no γ1 S' = .ok true S' by simp only [evt]]
    intro α2 H2 t2 s2'
    show rdI X Φ k E00 it2 σ1 H2 _
    refine ⟨D :: Z, α2, S', γ1, s2', er2.tr s''.muts t2, ?_⟩
    rw [hev]
    intro α3 H3 t3 s3 J1 WM1
    obtain ⟨G1, Y1, w1, hG1, hY1⟩ := WM1.ex
    have e3 : H3 D = some (.lst acc) := t3.keep D _ (t2.keep D _ e2 (s''.zs D List.mem_cons_self).1 trivial) (s2'.zs D List.mem_cons_self).1 trivial
    have r3 := RepL.tr s''.muts (t2.trans t3) _ _ r2
    have tt3 := (tt.trans t2).trans t3
    have er3 := (er2.tr s''.muts t2).tr s2'.muts t3
    refine ⟨fun j m H4 => m = s2.items.length - j ∧ j ≤ s2.items.length ∧ ∃ α4 S4 acc4 am4, Tr α1 H1 α4 H4 ∧ SR X.K (D :: Z) α4 H4 S4 ∧ TrQ (D :: Z) α3 H3 α4 H4 ∧ H4 D = some (.lst acc4) ∧ RepL X.K (D :: Z) α4 H4 am4 acc4 ∧ acc4.length ≤ i * 1000 + j ∧ ER X.K (D :: Z) α4 H4 γ1 σ1 ∧
      Out X.K Z X.mg E ((compLoop s2 (turnF (evalFn Φ k) tg2 ifs el (wipeE γ1 own2)) (s2.items.drop j) S4).bind fun l S5 => (rowLoop src (rowF (evalFn Φ k) tg it2 tg2 ifs el own2 (wipeE γ own)) (src.items.drop (i + 1)) S5).bind fun r S6 => mkL al (am4 ++ (l ++ r)) S6) α1 H1 (PM X.K Z Q),
      ⟨_, rfl, Nat.zero_le _, α3, S2, acc, am, tt3, s3, (Tr.refl s3).q, e3, r3, by omega, er3, by simpa using o⟩, ?_⟩
    rintro j m H4 ⟨rfl, hj, α4, S4, acc4, am4, t4, s4, q4, e4, r4, l4, er4, o4⟩
    by_cases hlt2 : j < s2.items.length
    · have hd2 : s2.items.drop j = s2.items[j] :: s2.items.drop (j + 1) := List.drop_eq_getElem_cons hlt2
      rw [hd2] at o4
      obtain ⟨hok2, γ2, hb2, b, S5, ht1, hcase⟩ := turn_out o4
      have hg1 := hG1 (D :: Z) α4 H4 S4 ZT.refl q4 s4 hok2
      refine .inr ⟨w1.goes j H4 hlt2 hg1, fun H5 => j + 1 ≤ s2.items.length ∧ ∃ α4 S4 acc4 am4, Tr α1 H1 α4 H5 ∧ SR X.K (D :: Z) α4 H5 S4 ∧ TrQ (D :: Z) α3 H3 α4 H5 ∧ H5 D = some (.lst acc4) ∧ RepL X.K (D :: Z) α4 H5 am4 acc4 ∧ acc4.length ≤ i * 1000 + (j + 1) ∧ ER X.K (D :: Z) α4 H5 γ1 σ1 ∧
        Out X.K Z X.mg E ((compLoop s2 (turnF (evalFn Φ k) tg2 ifs el (wipeE γ1 own2)) (s2.items.drop (j + 1)) S4).bind fun l S5 => (rowLoop src (rowF (evalFn Φ k) tg it2 tg2 ifs el own2 (wipeE γ own)) (src.items.drop (i + 1)) S5).bind fun r S6 => mkL al (am4 ++ (l ++ r)) S6) α1 H1 (PM X.K Z Q),
        fun H5 p => ⟨_, by omega, rfl, p.1, p.2⟩, fun z H5 hz => ?_⟩
      obtain ⟨tz, s5, rz⟩ := hY1 (D :: Z) α4 H4 S4 j s2.items[j] z H5 ZT.refl q4 s4 hok2 (by simp [hlt2]) (w1.yields j H4 z H5 hlt2 hg1 hz)
      have e5 : H5 D = some (.lst acc4) := tz.keep D _ e4 (s4.zs D List.mem_cons_self).1 trivial
      have er5 := er4.tr s4.muts tz
      refine tg_out (ER.wipe er5 own2) rz hb2 fun σ2 er6 hw2 => ⟨by rw [hw2 own2 slots2, wipe_wipe], ?_⟩
      refine ⟨D :: Z, α4, S4, γ2, s5, er6, ?_⟩
      rw [ht1]
      intro α6 H6 t6 s6
      have e6 : H6 D = some (.lst acc4) := t6.keep D _ e5 (s5.zs D List.mem_cons_self).1 trivial
      rcases hcase with ⟨rfl, y2, S7, hev2, o⟩ | ⟨rfl, o⟩
      · show rdC X Φ k E00 el σ2 H6 _
        refine ⟨D :: Z, α6, S5, γ2, s6, er6.tr s5.muts t6, ?_⟩
        rw [hev2]
        intro α7 H7 t7 s7 u ru
        have e7 : H7 D = some (.lst acc4) := t7.keep D _ e6 (s6.zs D List.mem_cons_self).1 trivial
        refine ⟨acc4, e7, by omega, hlt2, α7, S7, acc4 ++ [u], am4 ++ [y2], ?_, ?_, ?_, upd_same, ?_, by simp; omega, ?_, ?_⟩
        · exact Tr.off (((t4.trans tz).trans t6).trans t7) hD (s7.zs D List.mem_cons_self).1
        · exact SR.off List.mem_cons_self e7 trivial s7
        · exact TrQ.off (((q4.trans tz).trans t6).trans t7) List.mem_cons_self e3 trivial trivial
        · exact RepL.off List.mem_cons_self e7 trivial _ _ ((RepL.tr s4.muts ((tz.trans t6).trans t7) _ _ r4).append (RepL.one ru))
        · exact ER.off List.mem_cons_self e7 trivial ((er5.tr s5.muts t6).tr s6.muts t7)
        · simpa only [List.append_assoc] using o
      · exact ⟨hlt2, α6, S5, acc4, am4, (t4.trans tz).trans t6, s6, (q4.trans tz).trans t6, e6, RepL.tr s4.muts (tz.trans t6) _ _ r4, by omega, er5.tr s5.muts t6, o⟩
    · have ej : j = s2.items.length := by omega
      subst ej
      rw [List.drop_length] at o4
      obtain ⟨hok2, o4⟩ := end_out (call := evalFn Φ k) o4
      refine .inl ⟨w1.stops H4 (hG1 (D :: Z) α4 H4 S4 ZT.refl q4 s4 hok2), hlt, α4, S4, acc4, am4, t4, s4, e4, r4, by omega, ?_⟩
      simpa only [List.nil_append] using o4
  · have ei : i = src.items.length := by omega
    subst ei
    rw [List.drop_length] at o
    obtain ⟨hok, o⟩ := row_end o
    refine .inl ⟨w.stops H' (hG (D :: Z) α' H' S' (ZT.cons hD) t.q s' hok), ?_⟩
    rw [List.append_nil] at o
    have sZ : SR X.K Z α' H' S' := s'.sub fun a ha => List.mem_cons_of_mem _ ha
    have nD := (s'.zs D List.mem_cons_self).1
    have rZ := RepL.sub (Z' := Z) (fun a ha => List.mem_cons_of_mem _ ha) _ _ r
    have nZ : D ∉ Z := fun hz => (s1.zs D hz).2 hD
    unfold mkL at o
    cases al with
    | false =>
      have o' : Out X.K Z X.mg E (.ok (.lst am) S') α1 H1 (PM X.K Z Q) := o
      refine o' α' H' t sZ (.ref D) ?_
      simp only [Rep]
      exact ⟨D, acc, rfl, e1, ⟨nD, nZ⟩, rZ⟩
    | true =>
      have live : ∀ a ∈ α' ++ [D], H' a ≠ none := fun a ha => by
        rcases List.mem_append.mp ha with ha | ha
        · exact t.live a ha
        · rw [List.mem_singleton.mp ha, e1]; exact fun z => by cases z
      have tD : Tr α1 H1 (α' ++ [D]) H' := by
        obtain ⟨β, eβ, hβ⟩ := t.ext
        refine ⟨t.keep, t.tbl, ⟨β ++ [D], by rw [eβ, List.append_assoc], fun a ha => ?_⟩, live⟩
        rcases List.mem_append.mp ha with ha | ha
        · exact hβ a ha
        · rw [List.mem_singleton.mp ha]; exact hD
      have o' : Out X.K Z X.mg E (.ok (.ref S'.length) (S' ++ [.lst am])) α1 H1 (PM X.K Z Q) := o
      refine o' (α' ++ [D]) H' tD (s'.join nZ e1 r) (.ref D) ?_
      simp only [Rep]
      refine ⟨D, ?_, rfl⟩
      rw [List.getElem?_append_right (by rw [s'.len]; exact Nat.le_refl _), s'.len, Nat.sub_self]
      rfl
end
end Mi

namespace Mi
open PySem PySem.Spec L2
variable [Tabs]
/-! ### texts: signs, parts, what is within, join, split -/
section
variable {K : PySem.W.Frag} {Z α : List Addr} {H : Hp}
theorem strsOf_map : ∀ {ms : List M} {is : List Str}, strsOf ms = some is → ms = is.map M.str
  | [], is, h => by simp only [strsOf, Option.some.injEq] at h; subst h; rfl
  | .str i :: r, is, h => by
    simp only [strsOf, Option.map_eq_some_iff] at h
    obtain ⟨js, e, rfl⟩ := h
    rw [strsOf_map e]; rfl
  | .non :: r, is, h => by simp [strsOf] at h
  | .int _ :: r, is, h => by simp [strsOf] at h
  | .bl _ :: r, is, h => by simp [strsOf] at h
  | .tup _ :: r, is, h => by simp [strsOf] at h
  | .lst _ :: r, is, h => by simp [strsOf] at h
  | .scr _ :: r, is, h => by simp [strsOf] at h
  | .ref _ :: r, is, h => by simp [strsOf] at h
theorem RepL.strs : ∀ {ns : List Str} {xs : List V}, RepL K Z α H (ns.map M.str) xs → xs = ns.map V.str
  | [], xs, h => by simpa only [List.map_nil, RepL] using h
  | n :: ns, xs, h => by
    simp only [List.map_cons, RepL, Rep] at h
    obtain ⟨x, r, rfl, rfl, q⟩ := h
    rw [RepL.strs q]; rfl
theorem RepL.of_strs : ∀ (ns : List Str), RepL K Z α H (ns.map M.str) (ns.map V.str)
  | [] => by simp only [List.map_nil, RepL]
  | n :: ns => by simp only [List.map_cons, RepL, Rep]; exact ⟨_, _, rfl, rfl, RepL.of_strs ns⟩
theorem walk_of_str {z : Str} : WalkM K Z (Its z) ⟨signs z, .tup [], []⟩ α H := by
  have hl : (signs z).length = z.cps.size := by simp [signs]
  refine ⟨fun _ => True, fun i H' y H'' => H'' = H' ∧ ∃ c, z.cps[i]? = some c ∧ y = .str ⟨#[c]⟩, ⟨fun i H' h _ => by (show i < z.cps.size); have h' : i < (signs z).length := h; omega, fun H' _ => by (show z.cps.size ≤ (signs z).length); omega, fun i H' y H'' _ _ h => h⟩, fun _ _ _ _ _ _ _ _ => trivial, fun Z' α' H' S' i n y H'' zt t s' e hi' hy => ?_⟩
  obtain ⟨rfl, c, hc, rfl⟩ := hy
  refine ⟨Tr.refl s', s', ?_⟩
  have hi' : (signs z)[i]? = some n := hi'
  unfold signs at hi'
  rw [List.getElem?_map, Array.getElem?_toList, hc] at hi'
  have : n = M.str ⟨#[c]⟩ := (Option.some.inj hi').symm
  subst this
  simp only [Rep]
end
section
variable {Φ : Tx} {x : SX} {X : Cx} {CX : CXT} {k : Nat} {E : XK}
theorem l_six {a i : C} {e f : Expr} {p : Pos} (ha : PE X e (rdC X Φ k E a)) (hi : PE X f (rdC X Φ k E i)) (hf : odd f = false) : PE X (.Subscript e f p) (rdC X Φ k E (.six a i)) := by
  refine PE.wk (pe_ix ix_str ha hi (odd_ix hf)) ?_
  rintro σ H Q ⟨Z, α, S, γ, s, er, h⟩
  simp only [ev] at h
  refine ⟨Z, α, S, γ, s, er, h.bind.imp fun m S1 α1 H1 t1 s1 h v rv => ⟨Z, α1, S1, γ, s1, er.tr s.muts t1, h.bind.imp fun n S2 α2 H2 t2 s2 h u ru => ?_⟩⟩
  have rv := Rep.tr s1.muts t2 _ _ rv
  unfold sixop at h
  split at h
  · obtain ⟨c, h⟩ := h.when
    obtain ⟨d, e, h⟩ := h.of
    have := big_line
    exact ⟨_, _, d, rep_str rv, rep_int ru, by omega, e, out_str s2 h⟩
  · exact False.elim h
theorem l_ssl {a : C} {lo hi : Co} {e : Expr} {l u : Option Expr} {p p2 : Pos} (ha : PE X e (rdC X Φ k E a)) (hl : PO X l (rdO X Φ k E lo)) (hu : PO X u (rdO X Φ k E hi)) :
    PE X (.Subscript e (.Slice l u none p2) p) (rdC X Φ k E (.ssl a lo hi)) := by
  refine PE.wk (pe_slice sl_str ha hl hu) ?_
  rintro σ H Q ⟨Z, α, S, γ, s, er, h⟩
  simp only [ev] at h
  refine ⟨Z, α, S, γ, s, er, h.bind.imp fun m S1 α1 H1 t1 s1 h v rv => ⟨Z, α1, S1, γ, s1, er.tr s.muts t1, h.bind.imp fun o1 S2 α2 H2 t2 s2 h => ?_⟩⟩
  refine ⟨Z, α2, S2, γ, s2, (er.tr s.muts t1).tr s1.muts t2, h.bind.imp fun o2 S3 α3 H3 t3 s3 h => ?_⟩
  have rv := Rep.tr s1.muts (t2.trans t3) _ _ rv
  unfold sslop at h
  split at h
  · obtain ⟨c, h⟩ := h.when
    have := big_line
    exact ⟨_, rep_str rv, by omega, out_str s3 h⟩
  · exact False.elim h
def rSin (neg : Bool) : R2 := fun x y H Q => ∃ i j, x = V.str i ∧ y = V.str j ∧ Q (.bl (if neg = true then !inS i j else inS i j)) H
theorem op_sin (neg : Bool) : OpR X (compareOp (if neg = true then CmpOp.NotIn else CmpOp.In)) (rSin neg) := by
  cases neg with
  | false => exact op_in_str
  | true => exact op_notin_str
theorem sin_out {neg : Bool} {m n : M} {x y : V} {K : PySem.W.Frag} {mg : Str → Option Value} {Z α : List Addr} {H : Hp} {S : Store} {Q : VK} (s : SR K Z α H S) (rx : Rep K Z α H m x) (ry : Rep K Z α H n y) (h : Out K Z mg E (sinop neg m n S) α H (PM K Z Q)) : rSin neg x y H Q := by
  unfold sinop at h
  split at h
  · exact ⟨_, _, rep_str rx, rep_str ry, out_bl s h⟩
  · exact False.elim h
theorem l_sin {neg : Bool} {a b : C} {e f : Expr} {p : Pos} (ha : PE X e (rdC X Φ k E a)) (hb : PE X f (rdC X Φ k E b)) (hm : behindInMarks (if neg = true then CmpOp.NotIn else CmpOp.In) f = false) : PE X (.Compare e [if neg = true then CmpOp.NotIn else CmpOp.In] [f] p) (rdC X Φ k E (.sin neg a b)) := by
  refine PE.wk (pe_cmpR (op_sin neg) ha hb hm) ?_
  rintro σ H Q ⟨Z, α, S, γ, s, er, h⟩
  simp only [ev] at h
  refine ⟨Z, α, S, γ, s, er, h.bind.imp fun m S1 α1 H1 t1 s1 h v rv => ⟨Z, α1, S1, γ, s1, er.tr s.muts t1, h.bind.imp fun n S2 α2 H2 t2 s2 h u ru => ?_⟩⟩
  exact sin_out s2 (Rep.tr s1.muts t2 _ _ rv) ru h
theorem sin_isbl {neg : Bool} {m n : M} {S : Store} {K : PySem.W.Frag} {mg : Str → Option Value} {Z α : List Addr} {H : Hp} {P : M → Store → List Addr → Hp → Prop} (h : Out K Z mg E (sinop neg m n S) α H P) : Out K Z mg E (sinop neg m n S) α H fun r S1 α1 H1 => (∃ b, r = .bl b) ∧ P r S1 α1 H1 := by
  unfold sinop at h ⊢
  split at h
  · exact fun α' H' t s => ⟨⟨_, rfl⟩, h α' H' t s⟩
  · exact False.elim h
theorem l_tsin {neg : Bool} {a b : C} {e f : Expr} {p : Pos} (ha : PE X e (rdC X Φ k E a)) (hb : PE X f (rdC X Φ k E b)) (hm : behindInMarks (if neg = true then CmpOp.NotIn else CmpOp.In) f = false) : PT X (.Compare e [if neg = true then CmpOp.NotIn else CmpOp.In] [f] p) (rdT X Φ k E (.v (.sin neg a b))) := by
  refine PT.wk (pt_cmpR (op_sin neg) ha hb hm) ?_
  rintro σ H Q ⟨Z, α, S, γ, s, er, h⟩
  simp only [evT, ev] at h
  refine ⟨Z, α, S, γ, s, er, h.bind.bind.imp fun m S1 α1 H1 t1 s1 h v rv => ⟨Z, α1, S1, γ, s1, er.tr s.muts t1, h.bind.imp fun n S2 α2 H2 t2 s2 h u ru => ?_⟩⟩
  refine sin_out s2 (Rep.tr s1.muts t2 _ _ rv) ru ((sin_isbl h).imp fun r S3 α3 H3 t3 s3 h z rz => ?_)
  exact truth_bl s3 rz h.1 h.2
mutual
theorem rep_dp {K : PySem.W.Frag} {Z α : List Addr} {H : Hp} : ∀ (m : M) (d : PyData) (v : V), toD m = some d → Rep K Z α H m v → Dp K H v d
  | .non, d, v, e, r => by
    simp only [toD, Option.some.injEq] at e; subst e; rw [rep_non r]; exact .non
  | .bl b, d, v, e, r => by
    simp only [toD, Option.some.injEq] at e; subst e; rw [rep_bl r]; exact .bl b
  | .int b, d, v, e, r => by
    simp only [toD, Option.some.injEq] at e; subst e; rw [rep_int r]; exact .int b
  | .str b, d, v, e, r => by
    simp only [toD, Option.some.injEq] at e; subst e; rw [rep_str r]; exact .str b
  | .tup l, d, v, e, r => by
    simp only [toD, Option.map_eq_some_iff] at e
    obtain ⟨ds, e, rfl⟩ := e
    simp only [Rep] at r
    obtain ⟨a, xs, rfl, h, q⟩ := r
    exact .tup h (reps_dp l ds xs e q)
  | .lst l, d, v, e, r => by
    simp only [toD, Option.map_eq_some_iff] at e
    obtain ⟨ds, e, rfl⟩ := e
    simp only [Rep] at r
    obtain ⟨a, xs, rfl, h, _, q⟩ := r
    exact .lst (.of h) (reps_dp l ds xs e q)
  | .scr l, d, v, e, r => by simp [toD] at e
  | .ref l, d, v, e, r => by simp [toD] at e
theorem reps_dp {K : PySem.W.Frag} {Z α : List Addr} {H : Hp} : ∀ (l : List M) (ds : List PyData) (xs : List V), toDs l = some ds → RepL K Z α H l xs → DpAll K H xs ds
  | [], ds, xs, e, r => by
    simp only [toDs, Option.some.injEq] at e; subst e
    simp only [RepL] at r; subst r
    exact .nil
  | m :: l, ds, xs, e, r => by
    simp only [toDs] at e
    obtain ⟨d, e1, e⟩ := Option.bind_eq_some_iff.mp e
    obtain ⟨ds, e2, rfl⟩ := Option.map_eq_some_iff.mp e
    simp only [RepL] at r
    obtain ⟨x, r', rfl, h, q⟩ := r
    exact .cons (rep_dp m d x e1 h) (reps_dp l ds r' e2 q)
end
def rDeq (K : PySem.W.Frag) (neg : Bool) : R2 := fun x y H Q => ∃ d e, Dp K H x d ∧ Dp K H y e ∧ SeqAt.shaped d = true ∧ SeqAt.shaped e = true ∧ Q (.bl (if neg = true then !PyData.eqv d e else PyData.eqv d e)) H
theorem op_deq {X : Cx} (hu : X.A.units + 64 < cLine) (neg : Bool) : OpR X (compareOp (if neg = true then CmpOp.NotEq else CmpOp.Eq)) (rDeq X.K neg) := by
  cases neg with
  | false => exact op_eqD hu
  | true => exact op_neD hu
theorem deq_out {neg : Bool} {m n : M} {x y : V} {K : PySem.W.Frag} {mg : Str → Option Value} {Z α : List Addr} {H : Hp} {S : Store} {Q : VK} (s : SR K Z α H S) (rx : Rep K Z α H m x) (ry : Rep K Z α H n y) (h : Out K Z mg E (deqop neg m n S) α H (PM K Z Q)) : rDeq K neg x y H Q := by
  unfold deqop at h
  obtain ⟨d, e1, h⟩ := h.of
  obtain ⟨e, e2, h⟩ := h.of
  obtain ⟨⟨c1, c2⟩, h⟩ := h.when
  exact ⟨d, e, rep_dp _ _ _ e1 rx, rep_dp _ _ _ e2 ry, c1, c2, out_bl s h⟩
theorem deq_isbl {neg : Bool} {m n : M} {S : Store} {K : PySem.W.Frag} {mg : Str → Option Value} {Z α : List Addr} {H : Hp} {P : M → Store → List Addr → Hp → Prop} (h : Out K Z mg E (deqop neg m n S) α H P) : Out K Z mg E (deqop neg m n S) α H fun r S1 α1 H1 => (∃ b, r = .bl b) ∧ P r S1 α1 H1 := by
  unfold deqop at h ⊢
  obtain ⟨d, e1, h⟩ := h.of
  obtain ⟨e, e2, h⟩ := h.of
  obtain ⟨c, h⟩ := h.when
  rw [e1, R.of_some, e2, R.of_some, R.when_true c]
  exact fun α' H' t s => ⟨⟨_, rfl⟩, h α' H' t s⟩
theorem l_deq {neg : Bool} {a b : C} {e f : Expr} {p : Pos} (g : Good Φ x X CX k E) (ha : PE X e (rdC X Φ k E a)) (hb : PE X f (rdC X Φ k E b)) (hm : behindInMarks (if neg = true then CmpOp.NotEq else CmpOp.Eq) f = false) : PE X (.Compare e [if neg = true then CmpOp.NotEq else CmpOp.Eq] [f] p) (rdC X Φ k E (.deq neg a b)) := by
  refine PE.wk (pe_cmpR (op_deq (by have := g.room.un; omega) neg) ha hb hm) ?_
  rintro σ H Q ⟨Z, α, S, γ, s, er, h⟩
  simp only [ev] at h
  refine ⟨Z, α, S, γ, s, er, h.bind.imp fun m S1 α1 H1 t1 s1 h v rv => ⟨Z, α1, S1, γ, s1, er.tr s.muts t1, h.bind.imp fun n S2 α2 H2 t2 s2 h u ru => ?_⟩⟩
  exact deq_out s2 (Rep.tr s1.muts t2 _ _ rv) ru h
theorem l_tdeq {neg : Bool} {a b : C} {e f : Expr} {p : Pos} (g : Good Φ x X CX k E) (ha : PE X e (rdC X Φ k E a)) (hb : PE X f (rdC X Φ k E b)) (hm : behindInMarks (if neg = true then CmpOp.NotEq else CmpOp.Eq) f = false) : PT X (.Compare e [if neg = true then CmpOp.NotEq else CmpOp.Eq] [f] p) (rdT X Φ k E (.v (.deq neg a b))) := by
  refine PT.wk (pt_cmpR (op_deq (by have := g.room.un; omega) neg) ha hb hm) ?_
  rintro σ H Q ⟨Z, α, S, γ, s, er, h⟩
  simp only [evT, ev] at h
  refine ⟨Z, α, S, γ, s, er, h.bind.bind.imp fun m S1 α1 H1 t1 s1 h v rv => ⟨Z, α1, S1, γ, s1, er.tr s.muts t1, h.bind.imp fun n S2 α2 H2 t2 s2 h u ru => ?_⟩⟩
  refine deq_out s2 (Rep.tr s1.muts t2 _ _ rv) ru ((deq_isbl h).imp fun r S3 α3 H3 t3 s3 h z rz => ?_)
  exact truth_bl s3 rz h.1 h.2
theorem l_join {o a : C} {e f : Expr} {ap cp : Pos} (ho : PE X e (rdC X Φ k E o)) (ha : PE X f (rdC X Φ k E a)) (hb : noCall e = true) (hl : (ap.endLine == cp.line) = true) (hf : odd f = false) : PE X (.Call (.Attribute e (Str.ofString "join") ap) [f] [] cp) (rdC X Φ k E (.join o a)) := by
  refine PE.wk (pe_join ho ha (odd_star hf [] X.env) (noCall_base hb _ _ _) hl) ?_
  rintro σ H Q ⟨Z, α, S, γ, s, er, h⟩
  simp only [ev] at h
  refine ⟨Z, α, S, γ, s, er, h.bind.imp fun m S1 α1 H1 t1 s1 h v rv => ?_⟩
  obtain ⟨z, hz, h⟩ := h.of
  have hm : m = .str z := by
    cases m <;> simp only [strOf, reduceCtorEq, Option.some.injEq] at hz
    rw [hz]
  subst hm
  refine ⟨⟨z, rep_str rv⟩, Z, α1, S1, γ, s1, er.tr s.muts t1, h.bind.imp fun n S2 α2 H2 t2 s2 h u ru => ?_⟩
  unfold joinop at h
  obtain ⟨ys, e1, h⟩ := h.of
  obtain ⟨ms, e2, e3⟩ := Option.bind_eq_some_iff.mp e1
  obtain ⟨c, h⟩ := h.when
  obtain ⟨p, xs, rfl, hs, r⟩ := seq_rep s2 ru e2
  rw [strsOf_map e3] at r
  have := RepL.strs r
  subst this
  exact ⟨z, p, ys, rep_str rv, rfl, hs.imp And.left And.left, by omega, out_str s2 h⟩
theorem l_split {al : Bool} {o a : C} {e f : Expr} {ap cp : Pos} (ho : PE X e (rdC X Φ k E o)) (ha : PE X f (rdC X Φ k E a)) (hb : noCall e = true) (hl : (ap.endLine == cp.line) = true) (hf : odd f = false) : PE X (.Call (.Attribute e (Str.ofString "split") ap) [f] [] cp) (rdC X Φ k E (.split al o a)) := by
  refine PE.wk (pe_split ho ha (odd_star hf [] X.env) (noCall_base hb _ _ _) hl) ?_
  rintro σ H Q ⟨Z, α, S, γ, s, er, h⟩
  simp only [ev] at h
  refine ⟨Z, α, S, γ, s, er, h.bind.imp fun m S1 α1 H1 t1 s1 h v rv => ?_⟩
  obtain ⟨z, hz, h⟩ := h.of
  have hm : m = .str z := by
    cases m <;> simp only [strOf, reduceCtorEq, Option.some.injEq] at hz
    rw [hz]
  subst hm
  refine ⟨⟨z, rep_str rv⟩, Z, α1, S1, γ, s1, er.tr s.muts t1, h.bind.imp fun n S2 α2 H2 t2 s2 h u ru => ?_⟩
  unfold splitop at h
  obtain ⟨y, hy, h⟩ := h.of
  have hn : n = .str y := by
    cases n <;> simp only [strOf, reduceCtorEq, Option.some.injEq] at hy
    rw [hy]
  subst hn
  obtain ⟨⟨c1, c2⟩, h⟩ := h.when
  have := big_line
  exact ⟨z, y, rep_str rv, by rw [rep_str ru], c2, by omega, fun p hp => Out.mkL s2 (RepL.of_strs _) hp h⟩
theorem l_isgn {a : C} {tg e : Expr} (ha : PE X e (rdC X Φ k E a)) : PI X tg e (rdI X Φ k E (.sgn a)) := by
  refine PI.wk (pi_str ha) ?_
  rintro σ H R ⟨Z, α, S, γ, s, er, h⟩
  simp only [evI] at h
  refine ⟨Z, α, S, γ, s, er, h.bind.imp fun m S1 α1 H1 t1 s1 h v rv => ?_⟩
  split at h
  · obtain ⟨c, h⟩ := h.when
    exact ⟨_, rep_str rv, h.now s1 _ walk_of_str⟩
  · exact False.elim h
end
end Mi

namespace Mi
open PySem PySem.Spec L2
variable [Tabs]

section
variable {Φ : Tx}
/-- a test that is no name of a value's truth -/
def isBo : Expr → Bool
  | .BoolOp .. => true
  | _ => false
def tOdd : Expr → Bool
  | .UnaryOp .Not _ _ => true
  | .BoolOp .. => true
  | .IfExp .. => true
  | .Compare .. => true
  | _ => false
theorem t_plain {e : Expr} (h : odd e = false) (h' : tOdd e = false) (env : PySem.Env) : ∀ whole, isTrue e env whole = (do let v ← whole; standAt e.pos; holding [v] (truthy v)) := by
  intro whole
  cases e <;> first
    | rfl
    | exact absurd h'.symm Bool.false_ne_true
    | exact absurd h.symm Bool.false_ne_true
    | (rename_i op _ _; cases op <;> first | rfl | exact absurd h'.symm Bool.false_ne_true)
theorem cs_nil {cs : Cs} {x : SX} (h : chkCs Φ cs x [] = true) : cs = .nil := by
  cases cs with
  | nil => rfl
  | cons a r => simp [chkCs] at h
theorem chkC_pos {c : C} {x : SX} {e : Expr} (h : chkC Φ c x e = true) : True := trivial
theorem chkI_odd {it : It'} {x : SX} {t e : Expr} (h : chkI Φ it x t e = true) : odd e = false := by
  cases it with
  | val a => exact chk_odd (show chkC Φ a x e = true from h)
  | range1 a => cases e <;> first | rfl | exact absurd h Bool.false_ne_true
  | range2 a b => cases e <;> first | rfl | exact absurd h Bool.false_ne_true
  | enum a => cases e <;> first | rfl | (cases t <;> exact absurd h Bool.false_ne_true)
  | sgn a => exact chk_odd (show chkC Φ a x e = true from h)
theorem PW.of_eq {X : Cx} {e : Expr} {t : TT} (h : PW X e t) : PT X e t := h.pt

set_option maxHeartbeats 1000000 in
mutual
theorem soC : ∀ (c : C) {x : SX} {X : Cx} {CX : CXT} {k : Nat} {E : XK} {e : Expr}, Good Φ x X CX k E → chkC Φ c x e = true → PE X e (rdC X Φ k E c)
  | .var i, x, X, CX, k, E, e, g, h => by
    simp only [chkC] at h
    split at h
    · simp only [Bool.and_eq_true, decide_eq_true_eq] at h
      exact l_var g h.1.1 h.1.2 h.2
    · cases h
  | .con q, x, X, CX, k, E, e, g, h => by
    simp only [chkC] at h
    split at h
    · exact l_con rfl pe_non fun _ _ _ => by simp only [Kon.m, Rep]
    · rw [beq_iff_eq] at h; subst h
      exact l_con rfl pe_bl fun _ _ _ => by simp only [Kon.m, Rep]
    · rw [beq_iff_eq] at h; subst h
      exact l_con rfl pe_int fun _ _ _ => by simp only [Kon.m, Rep]
    · have h := of_decide_eq_true h; subst h
      exact l_con rfl pe_str fun _ _ _ => by simp only [Kon.m, Rep]
    · cases h
  | .tup es, x, X, CX, k, E, e, g, h => by
    simp only [chkC] at h
    split at h
    · exact l_tup (soCs es g h)
    · cases h
  | .lst al es, x, X, CX, k, E, e, g, h => by
    simp only [chkC] at h
    split at h
    · exact l_lst (soCs es g h)
    · cases h
  | .bin al o a b, x, X, CX, k, E, e, g, h => by
    simp only [chkC] at h
    split at h
    · simp only [Bool.and_eq_true, decide_eq_true_eq] at h
      obtain ⟨⟨rfl, ha⟩, hb⟩ := h
      exact l_bin (soC a g ha) (soC b g hb)
    · cases h
  | .neg a, x, X, CX, k, E, e, g, h => by
    simp only [chkC] at h
    split at h
    · exact l_neg (soC a g h)
    · cases h
  | .cmp o a b, x, X, CX, k, E, e, g, h => by
    simp only [chkC] at h
    split at h
    · simp only [Bool.and_eq_true, decide_eq_true_eq] at h
      obtain ⟨⟨rfl, ha⟩, hb⟩ := h
      exact l_cmp (soC a g ha) (soC b g hb) (odd_mark (chk_odd hb) _)
    · cases h
  | .chain o o' a b c, x, X, CX, k, E, e, g, h => by
    simp only [chkC] at h
    split at h
    · simp only [Bool.and_eq_true, decide_eq_true_eq] at h
      obtain ⟨⟨⟨⟨rfl, rfl⟩, ha⟩, hb⟩, hc⟩ := h
      exact l_chain (soC a g ha) (soC b g hb) (soC c g hc) (odd_mark (chk_odd hc) _)
    · cases h
  | .and a b, x, X, CX, k, E, e, g, h => by
    simp only [chkC] at h
    split at h
    · simp only [Bool.and_eq_true] at h
      exact l_and (p' := default) (soC a g h.1) (soC b g h.2)
    · cases h
  | .or a b, x, X, CX, k, E, e, g, h => by
    simp only [chkC] at h
    split at h
    · simp only [Bool.and_eq_true] at h
      exact l_or (p' := default) (soC a g h.1) (soC b g h.2)
    · cases h
  | .one a, x, X, CX, k, E, e, g, h => by
    simp only [chkC] at h
    split at h
    · exact l_one (soC a g h)
    · cases h
  | .not a, x, X, CX, k, E, e, g, h => by
    simp only [chkC] at h
    split at h
    · exact l_not (soC a g h)
    · cases h
  | .ife t a b, x, X, CX, k, E, e, g, h => by
    simp only [chkC] at h
    split at h
    · simp only [Bool.and_eq_true] at h
      exact l_ife (soT t g h.1.1).1 (soC a g h.1.2) (soC b g h.2)
    · cases h
  | .ix a i, x, X, CX, k, E, e, g, h => by
    simp only [chkC] at h
    split at h
    · simp only [Bool.and_eq_true] at h
      exact l_ix (soC a g h.1) (soC i g h.2) (chk_odd h.2)
    · cases h
  | .sl al a lo hi, x, X, CX, k, E, e, g, h => by
    simp only [chkC] at h
    split at h
    · simp only [Bool.and_eq_true] at h
      exact l_sl (soC a g h.1.1) (soO lo g h.1.2) (soO hi g h.2)
    · cases h
  | .rev al a, x, X, CX, k, E, e, g, h => by
    simp only [chkC] at h
    split at h
    · exact l_rev (soC a g h)
    · cases h
  | .call pu f es, x, X, CX, k, E, e, g, h => by
    simp only [chkC] at h
    split at h
    · simp only [Bool.and_eq_true, decide_eq_true_eq] at h
      obtain ⟨⟨⟨⟨hn, hg⟩, hp⟩, hs⟩, ha⟩ := h
      obtain ⟨d, hd⟩ := Option.isSome_iff_exists.mp hs
      exact l_call g hd hn hg hp (soCs es g ha) (chks_odd ha) fun e => by subst e; exact cs_nil ha
    · cases h
  | .callk pu f es qs kes, x, X, CX, k, E, e, g, h => by
    simp only [chkC] at h
    split at h
    · simp only [Bool.and_eq_true, decide_eq_true_eq] at h
      obtain ⟨⟨⟨⟨⟨hn, hg⟩, hp⟩, ha⟩, hk⟩, hs⟩ := h
      split at hs
      · rename_i d hd
        simp only [Bool.and_eq_true, decide_eq_true_eq] at hs
        exact l_callk g hd hn hg hp (soCs es g ha) (chks_odd ha) (fun e => by subst e; exact cs_nil ha) (soK kes g hk) hs.1 hs.2
      · cases hs
    · cases h
  | .bi b es, x, X, CX, k, E, e, g, h => by
    simp only [chkC] at h
    split at h
    · simp only [Bool.and_eq_true, decide_eq_true_eq] at h
      exact l_bi g h.1.1 h.1.2 (soCs es g h.2) (chks_odd h.2)
    · cases h
  | .lrange al es, x, X, CX, k, E, e, g, h => by
    simp only [chkC] at h
    split at h
    · simp only [Bool.and_eq_true, decide_eq_true_eq] at h
      obtain ⟨⟨⟨⟨hn, hg⟩, hm⟩, hgm⟩, ha⟩ := h
      exact l_lrange g hn hg (prg_core g hm hgm (soCs es g ha) (chks_odd ha)) rfl
    · cases h
  | .trange es, x, X, CX, k, E, e, g, h => by
    simp only [chkC] at h
    split at h
    · simp only [Bool.and_eq_true, decide_eq_true_eq] at h
      obtain ⟨⟨⟨⟨hn, hg⟩, hm⟩, hgm⟩, ha⟩ := h
      exact l_trange g hn hg (prg_core g hm hgm (soCs es g ha) (chks_odd ha)) rfl
    · cases h
  | .isi a ts, x, X, CX, k, E, e, g, h => by
    simp only [chkC] at h
    split at h
    · simp only [Bool.and_eq_true, decide_eq_true_eq] at h
      obtain ⟨⟨⟨hn, hg⟩, ha⟩, hc⟩ := h
      split at hc
      · simp only [Bool.and_eq_true, decide_eq_true_eq] at hc
        exact l_isiT g hn hg (soC a g ha) (chk_odd ha) hc.1 hc.2
      · unfold chkTy at hc
        split at hc
        · rename_i q; cases q
        · rename_i q
          cases q
          simp only [Bool.and_eq_true, decide_eq_true_eq] at hc
          obtain ⟨⟨⟨e1, e2⟩, e3⟩, e4⟩ := hc
          unfold chkTy at e4
          split at e4
          · exact l_isi1 g hn hg (soC a g ha) (chk_odd ha) e1 e2 e3
          · rename_i q; cases q
          · cases e4
        · cases hc
    · cases h
  | .meth m o es, x, X, CX, k, E, e, g, h => by
    simp only [chkC] at h
    split at h
    · simp only [Bool.and_eq_true, decide_eq_true_eq] at h
      obtain ⟨⟨⟨⟨⟨hn, hb⟩, hl⟩, h8⟩, ho⟩, ha⟩ := h
      subst hn
      exact l_meth hb hl h8 (soC o g ho) (soCs es g ha) (chks_odd ha) fun e => by subst e; exact cs_nil ha
    · cases h
  | .lc al tg it ifs el own, x, X, CX, k, E, e, g, h => by
    simp only [chkC] at h
    split at h
    · rename_i v t i ts sc pos
      simp only [Bool.and_eq_true] at h
      obtain ⟨⟨⟨⟨⟨hb, hs⟩, htg⟩, hi⟩, hf⟩, he⟩ := h
      have hbk : blkC X.N X.env.scope sc (ownP x.N own) = true := by rw [g.eN, g.eS]; exact hb
      refine PE.wk (pe_lc (wi := rdI X Φ k E it) (g := rdG X.K tg) (tt := rdF X Φ k E00 ifs) (te := rdC X Φ k E00 el) g.calm g.nd (soI it g hi) (blkOk_by hbk) (fun s H C cl fp => l_tg (g.blk s H C cl fp _) htg) (fun s H C cl fp => soF ifs (g.blk s H C cl fp _) hf) (fun s H C cl fp => soC el (g.blk s H C cl fp _) he) (fun z => odd_fold (chkI_odd hi) _ z)) ?_
      intro σ H Q hq
      rw [own_snd]
      exact l_lc (p := default) g hb hs (soI it g hi) (.inl (chkI_odd hi)) (fun s H C cl fp => l_tg (g.blk s H C cl fp _) htg) (fun s H C cl fp => soF ifs (g.blk s H C cl fp _) hf) (fun s H C cl fp => soC el (g.blk s H C cl fp _) he) σ H Q hq
    · cases h
  | .lc2 al tg it tg2 it2 ifs el own own2, x, X, CX, k, E, e, g, h => by
    simp only [chkC] at h
    split at h
    · rename_i v t i t2 i2 ts sc pos
      simp only [Bool.and_eq_true] at h
      obtain ⟨⟨⟨⟨⟨⟨⟨⟨⟨hb, hs⟩, hs2⟩, hso⟩, htg⟩, hi⟩, htg2⟩, hi2⟩, hf⟩, he⟩ := h
      have hbk : blkC X.N X.env.scope sc (ownP x.N own) = true := by rw [g.eN, g.eS]; exact hb
      refine PE.wk (pe_lc2 (wi := rdI X Φ k E it) (g := rdG X.K tg) (tt := rdF X Φ k E00 .no) (wi1 := rdI X Φ k E00 it2) (g1 := rdG X.K tg2) (tt1 := rdF X Φ k E00 ifs) (te := rdC X Φ k E00 el) (vs1 := own2) g.calm g.nd (soI it g hi) (blkOk_by hbk) (fun j hj => by rw [own_snd]; exact of_decide_eq_true (List.all_eq_true.mp hso j hj))
        (fun s H C cl fp => l_tg (g.blk s H C cl fp _) htg) (fun s H C cl fp => l_fno) (fun s H C cl fp => soI it2 (g.blk s H C cl fp _) hi2) (fun s H C cl fp => l_tg (g.blk s H C cl fp _) htg2) (fun s H C cl fp => soF ifs (g.blk s H C cl fp _) hf) (fun s H C cl fp => soC el (g.blk s H C cl fp _) he) (fun z => odd_fold (chkI_odd hi) _ z) (fun env z => odd_fold (chkI_odd hi2) _ z)) ?_
      intro σ H Q hq
      rw [own_snd]
      exact l_lc2 hs hs2 σ H Q hq
    · cases h
  | .cst s i, x, X, CX, k, E, e, g, h => by
    simp only [chkC] at h
    split at h
    · simp only [Bool.and_eq_true, decide_eq_true_eq] at h
      exact l_cst g h.1.1.1 h.1.1.2 h.1.2 h.2
    · cases h
  | .cstS s t, x, X, CX, k, E, e, g, h => by
    simp only [chkC] at h
    split at h
    · simp only [Bool.and_eq_true, decide_eq_true_eq] at h
      exact l_cstS g h.1.1.1 h.1.1.2 h.1.2 h.2
    · cases h
  | .six a i, x, X, CX, k, E, e, g, h => by
    simp only [chkC] at h
    split at h
    · simp only [Bool.and_eq_true] at h
      exact l_six (soC a g h.1) (soC i g h.2) (chk_odd h.2)
    · cases h
  | .ssl a lo hi, x, X, CX, k, E, e, g, h => by
    simp only [chkC] at h
    split at h
    · simp only [Bool.and_eq_true] at h
      exact l_ssl (soC a g h.1.1) (soO lo g h.1.2) (soO hi g h.2)
    · cases h
  | .sin neg a b, x, X, CX, k, E, e, g, h => by
    simp only [chkC] at h
    split at h
    · simp only [Bool.and_eq_true, decide_eq_true_eq] at h
      obtain ⟨⟨ho, ha⟩, hb⟩ := h
      rw [ho]
      exact l_sin (soC a g ha) (soC b g hb) (odd_mark (chk_odd hb) _)
    · cases h
  | .deq neg a b, x, X, CX, k, E, e, g, h => by
    simp only [chkC] at h
    split at h
    · simp only [Bool.and_eq_true, decide_eq_true_eq] at h
      obtain ⟨⟨ho, ha⟩, hb⟩ := h
      rw [ho]
      exact l_deq g (soC a g ha) (soC b g hb) (odd_mark (chk_odd hb) _)
    · cases h
  | .join o a, x, X, CX, k, E, e, g, h => by
    simp only [chkC] at h
    split at h
    · simp only [Bool.and_eq_true, decide_eq_true_eq] at h
      obtain ⟨⟨⟨⟨hn, hc⟩, hl⟩, ho⟩, ha⟩ := h
      rw [hn]
      exact l_join (soC o g ho) (soC a g ha) hc hl (chk_odd ha)
    · cases h
  | .split al o a, x, X, CX, k, E, e, g, h => by
    simp only [chkC] at h
    split at h
    · simp only [Bool.and_eq_true, decide_eq_true_eq] at h
      obtain ⟨⟨⟨⟨hn, hc⟩, hl⟩, ho⟩, ha⟩ := h
      rw [hn]
      exact l_split (soC o g ho) (soC a g ha) hc hl (chk_odd ha)
    · cases h
  | .chain3 o o' o'' a b c d, x, X, CX, k, E, e, g, h => by
    simp only [chkC] at h
    split at h
    · simp only [Bool.and_eq_true, decide_eq_true_eq] at h
      obtain ⟨⟨⟨⟨⟨⟨rfl, rfl⟩, rfl⟩, ha⟩, hb⟩, hc⟩, hd⟩ := h
      exact l_chain3 (soC a g ha) (soC b g hb) (soC c g hc) (soC d g hd) (odd_mark (chk_odd hd) _)
    · cases h
  | .ssc al tg it ifs el own, x, X, CX, k, E, e, g, h => by
    simp only [chkC] at h
    split at h
    · simp only [Bool.and_eq_true, decide_eq_true_eq] at h
      obtain ⟨⟨⟨⟨⟨⟨⟨hn, hgl⟩, hb⟩, hs⟩, htg⟩, hi⟩, hf⟩, he⟩ := h
      exact l_ssc g hn hgl hb hs (soI it g hi) (fun z => odd_fold (chkI_odd hi) _ z) (fun s H C cl fp => l_tg (g.blk s H C cl fp _) htg) (fun s H C cl fp => soF ifs (g.blk s H C cl fp _) hf) (fun s H C cl fp => soC el (g.blk s H C cl fp _) he)
    · cases h
  | .anyg neg tg it ifs el own, x, X, CX, k, E, e, g, h => by
    simp only [chkC] at h
    split at h
    · simp only [Bool.and_eq_true, decide_eq_true_eq] at h
      obtain ⟨⟨⟨⟨⟨⟨⟨⟨⟨hn, hgl⟩, hx⟩, hgc⟩, hs⟩, hnl⟩, htg⟩, hi⟩, hf⟩, he⟩ := h
      exact l_anygE g hn hgl hx hgc hs hnl (chkI_odd hi) (soI it g hi) (fun s H C cl code fp => l_tg (g.gen hx s H C cl code fp _) htg) (fun s H C cl code fp => soF ifs (g.gen hx s H C cl code fp _) hf) (fun s H C cl code fp => soC el (g.gen hx s H C cl code fp _) he)
    · cases h
  | .dct ks es, x, X, CX, k, E, e, g, h => by
    simp only [chkC] at h
    split at h
    · simp only [Bool.and_eq_true, decide_eq_true_eq] at h
      obtain ⟨⟨⟨h15, hl⟩, hk⟩, hc⟩ := h
      obtain ⟨k1, k2⟩ := ks_len hk
      exact l_dct h15 (by rw [k1, hl, cs_len hc]) k1 hl k2 (soD es g (by rw [k1, hl, cs_len hc]) hk hc)
    · cases h
termination_by structural c => c
theorem soT : ∀ (c : T) {x : SX} {X : Cx} {CX : CXT} {k : Nat} {E : XK} {e : Expr}, Good Φ x X CX k E → chkT Φ c x e = true → PT X e (rdT X Φ k E c) ∧ (isBo e = true → PW X e (rdT X Φ k E c))
  | .v c, x, X, CX, k, E, e, g, h => by
    simp only [chkT] at h
    split at h
    · cases h
    · cases h
    · cases h
    · rename_i n1 n2 n3
      have hbo : isBo e = false := by
        cases e <;> first | rfl | exact absurd rfl (n2 _ _ _)
      refine ⟨?_, fun q => by rw [hbo] at q; cases q⟩
      have ho := chk_odd h
      cases ht : tOdd e with
      | false => exact l_tv (soC c g h) (t_plain ho ht _)
      | true =>
        cases e <;> first
          | exact absurd ht Bool.false_ne_true
          | exact absurd rfl (n2 _ _ _)
          | exact absurd rfl (n3 _ _ _ _)
          | skip
        · rename_i op _ _
          cases op <;> first | exact absurd rfl (n1 _ _) | exact absurd ht Bool.false_ne_true
        · cases c <;> first
            | (simp only [chkC] at h; done)
            | skip
          all_goals first
            | (exfalso; simp only [chkC] at h; exact Bool.false_ne_true h)
            | skip
          · rename_i o a b
            simp only [chkC] at h
            split at h
            · rename_i q
              cases q
              simp only [Bool.and_eq_true, decide_eq_true_eq] at h
              obtain ⟨⟨rfl, ha⟩, hb⟩ := h
              exact l_tcmp (soC a g ha) (soC b g hb) (odd_mark (chk_odd hb) _)
            · cases h
          · simp only [chkC] at h
            split at h
            · rename_i q
              cases q
              simp only [Bool.and_eq_true, decide_eq_true_eq] at h
              obtain ⟨⟨⟨⟨rfl, rfl⟩, ha⟩, hb⟩, hc⟩ := h
              exact l_tchain (soC _ g ha) (soC _ g hb) (soC _ g hc) (odd_mark (chk_odd hc) _)
            · cases h
          · simp only [chkC] at h
            split at h
            · rename_i q
              cases q
              simp only [Bool.and_eq_true, decide_eq_true_eq] at h
              obtain ⟨⟨ho, ha⟩, hb⟩ := h
              rw [ho]
              exact l_tsin (soC _ g ha) (soC _ g hb) (odd_mark (chk_odd hb) _)
            · cases h
          · simp only [chkC] at h
            split at h
            · rename_i q
              cases q
              simp only [Bool.and_eq_true, decide_eq_true_eq] at h
              obtain ⟨⟨ho, ha⟩, hb⟩ := h
              rw [ho]
              exact l_tdeq g (soC _ g ha) (soC _ g hb) (odd_mark (chk_odd hb) _)
            · cases h
          · simp only [chkC] at h
            split at h
            · rename_i q
              cases q
              simp only [Bool.and_eq_true, decide_eq_true_eq] at h
              obtain ⟨⟨⟨⟨⟨⟨rfl, rfl⟩, rfl⟩, ha⟩, hb⟩, hc⟩, hd⟩ := h
              exact l_tchain3 (soC _ g ha) (soC _ g hb) (soC _ g hc) (soC _ g hd) (odd_mark (chk_odd hd) _)
            · cases h
  | .and a b, x, X, CX, k, E, e, g, h => by
    simp only [chkT] at h
    split at h
    · simp only [Bool.and_eq_true] at h
      have q := l_tand (p := _) (soT a g h.1).1 ((soT b g h.2).2 rfl)
      exact ⟨q.pt, fun _ => q⟩
    · cases h
  | .or a b, x, X, CX, k, E, e, g, h => by
    simp only [chkT] at h
    split at h
    · simp only [Bool.and_eq_true] at h
      have q := l_tor (p := _) (soT a g h.1).1 ((soT b g h.2).2 rfl)
      exact ⟨q.pt, fun _ => q⟩
    · cases h
  | .one a, x, X, CX, k, E, e, g, h => by
    simp only [chkT] at h
    split at h
    · rename_i op l pos
      have q := l_tone (o := op) (p := pos) (soT a g h).1
      exact ⟨q.pt, fun _ => q⟩
    · cases h
  | .not a, x, X, CX, k, E, e, g, h => by
    simp only [chkT] at h
    split at h
    · exact ⟨l_tnot (soT a g h).1, fun q => by cases q⟩
    · cases h
termination_by structural c => c
theorem soCs : ∀ (c : Cs) {x : SX} {X : Cx} {CX : CXT} {k : Nat} {E : XK} {l : List Expr}, Good Φ x X CX k E → chkCs Φ c x l = true → PA X l (rdCs X Φ k E c)
  | .nil, x, X, CX, k, E, l, g, h => by
    cases l with
    | nil => exact l_nil
    | cons e es => simp [chkCs] at h
  | .cons a r, x, X, CX, k, E, l, g, h => by
    cases l with
    | nil => simp [chkCs] at h
    | cons e es =>
      simp only [chkCs, Bool.and_eq_true] at h
      exact l_cons (soC a g h.1) (soCs r g h.2) (chk_odd h.1)
termination_by structural c => c
theorem soK : ∀ (c : Cs) {x : SX} {X : Cx} {CX : CXT} {k : Nat} {E : XK} {l : List Keyword}, Good Φ x X CX k E → chkK Φ c x l = true → PK X l (rdCs X Φ k E c)
  | .nil, x, X, CX, k, E, l, g, h => by
    cases l with
    | nil => exact l_knil
    | cons e es => simp [chkK] at h
  | .cons a r, x, X, CX, k, E, l, g, h => by
    simp only [chkK] at h
    split at h
    · simp only [Bool.and_eq_true] at h
      exact l_kcons (soC a g h.1) (soK r g h.2)
    · cases h
termination_by structural c => c
theorem soO : ∀ (c : Co) {x : SX} {X : Cx} {CX : CXT} {k : Nat} {E : XK} {o : Option Expr}, Good Φ x X CX k E → chkO Φ c x o = true → PO X o (rdO X Φ k E c)
  | .no, x, X, CX, k, E, o, g, h => by
    cases o with
    | none => exact l_no
    | some e => simp [chkO] at h
  | .so a, x, X, CX, k, E, o, g, h => by
    cases o with
    | none => simp [chkO] at h
    | some e => exact l_so (soC a g (by simpa only [chkO] using h))
termination_by structural c => c
theorem soF : ∀ (c : To) {x : SX} {X : Cx} {CX : CXT} {k : Nat} {E : XK} {l : List Expr}, Good Φ x X CX k E → chkF Φ c x l = true → PTs X l (rdF X Φ k E c)
  | .no, x, X, CX, k, E, l, g, h => by
    cases l with
    | nil => exact l_fno
    | cons e es => simp [chkF] at h
  | .so a, x, X, CX, k, E, l, g, h => by
    simp only [chkF] at h
    split at h
    · exact l_fso (soT a g h).1
    · cases h
termination_by structural c => c
theorem soI : ∀ (c : It') {x : SX} {X : Cx} {CX : CXT} {k : Nat} {E : XK} {t e : Expr}, Good Φ x X CX k E → chkI Φ c x t e = true → PI X t e (rdI X Φ k E c)
  | .val a, x, X, CX, k, E, t, e, g, h => l_ival (soC a g (by simpa only [chkI] using h))
  | .sgn a, x, X, CX, k, E, t, e, g, h => l_isgn (soC a g (by simpa only [chkI] using h))
  | .range1 a, x, X, CX, k, E, t, e, g, h => by
    simp only [chkI] at h
    split at h
    · simp only [Bool.and_eq_true, decide_eq_true_eq] at h
      exact l_irange1 g h.1.1 h.1.2 (soC a g h.2) (chk_odd h.2)
    · cases h
  | .range2 a b, x, X, CX, k, E, t, e, g, h => by
    simp only [chkI] at h
    split at h
    · simp only [Bool.and_eq_true, decide_eq_true_eq] at h
      exact l_irange2 g h.1.1.1 h.1.1.2 (soC a g h.1.2) (soC b g h.2) (chk_odd h.1.2) (chk_odd h.2)
    · cases h
  | .enum a, x, X, CX, k, E, t, e, g, h => by
    simp only [chkI] at h
    split at h
    · simp only [Bool.and_eq_true, decide_eq_true_eq] at h
      exact l_ienum g h.1.1 h.1.2 (soC a g h.2) (chk_odd h.2)
    · cases h
termination_by structural c => c
theorem soD : ∀ (c : Cs) {x : SX} {X : Cx} {CX : CXT} {k : Nat} {E : XK} {ks : List String} {kl : List (Option Expr)} {l : List Expr} {pos : Pos}, Good Φ x X CX k E → kl.length = l.length → chkKs ks kl = true → chkCs Φ c x l = true → PPs X pos kl l (trsOf X Φ k E ks c)
  | .nil, x, X, CX, k, E, ks, kl, l, pos, g, hl, hk, h => by
    cases l with
    | nil =>
      cases kl with
      | nil => cases ks with
        | nil => exact pps_nil
        | cons q ks => unfold chkKs at hk; cases hk
      | cons => cases hl
    | cons e es => simp [chkCs] at h
  | .cons a r, x, X, CX, k, E, ks, kl, l, pos, g, hl, hk, h => by
    cases l with
    | nil => simp [chkCs] at h
    | cons e es =>
      simp only [chkCs, Bool.and_eq_true] at h
      cases kl with
      | nil => cases hl
      | cons o kl =>
        cases ks with
        | nil => unfold chkKs at hk; cases hk
        | cons q ks =>
          unfold chkKs at hk
          split at hk
          · rename_i z; cases z
          · rename_i z1 z2
            cases z1; cases z2
            simp only [Bool.and_eq_true, decide_eq_true_eq] at hk
            obtain ⟨rfl, hk⟩ := hk
            exact pps_cons pe_str (soC a g h.1) (soD r g (by simpa using hl) hk h.2)
          · cases hk
termination_by structural c => c
end
end
end Mi

namespace Mi
open PySem PySem.Spec L2 PyProof.Rows

/-! ### statements: the text's check -/
def isLC : Expr → Bool
  | .ListComp .. => true
  | _ => false
def parOk (x : SX) (ts vs : List Expr) : Bool := decide (x.sc.kind = .function) && (match ts, vs with
  | [.Name a pa, .Name b pb], [u, v] => (pb.line == pa.line) && decide (x.sc.names.lookup a = some .local) && decide (x.sc.names.lookup b = some .local) && decide (a ≠ b) && !(foldedForSure 8 u && foldedForSure 8 v) && !(constantsAlone 8 u && constantsAlone 8 v)
  | [.Name a pa, .Name b pb, .Name c pc], [u, v, w] => (pb.line == pa.line) && (pc.line == pa.line) && decide (x.sc.names.lookup a = some .local) && decide (x.sc.names.lookup b = some .local) && decide (x.sc.names.lookup c = some .local) && decide (a ≠ b) && decide (a ≠ c) && decide (b ≠ c) &&
      !(foldedForSure 8 u && foldedForSure 8 v && foldedForSure 8 w) && !(constantsAlone 8 u && constantsAlone 8 v && constantsAlone 8 w)
  | _, _ => false)
def unpOk (v : Expr) : Bool := match v with
  | .Tuple vs _ _ => vs.all (foldedForSure 8)
  | _ => true
section
variable (Φ : Tx)
/-- what a suite hands back -/
def chkSa (x : SX) (fs : List String) (nm : Option Str) : Sa → Expr → Bool
  | .con k, e => match k, e with
    | .non, .Constant .none _ _ => true
    | .bl b, .Constant (.bool c) _ _ => b == c
    | .int i, .Constant (.int j) _ _ => i == j
    | .str s, .Constant (.str t) _ _ => decide (Str.ofString s = t)
    | _, _ => false
  | .fld f, e => match nm, e with
    | some s, .Attribute (.Name m _) n _ => decide (m = s) && decide (n = Str.ofString f) && decide (f ∈ fs)
    | _, _ => false
def chkSas (x : SX) (fs : List String) (nm : Option Str) : List Sa → List Expr → Bool
  | [], [] => true
  | a :: r, e :: es => chkSa x fs nm a e && chkSas x fs nm r es
  | _, _ => false
def chkSr (x : SX) (fs : List String) (nm : Option Str) : Sr → Expr → Bool
  | .one a, e => chkSa x fs nm a e
  | .tup l, e => match e with
    | .Tuple es _ _ => decide (l.length ≤ 20) && chkSas x fs nm l es
    | _ => false
/-- isinstance(e, c) in a suite -/
def chkIz (x : SX) (nm : Option Str) (c : String) (e : Expr) : Bool := match nm, e with
  | some s, .Call (.Name i _) [.Name m _, .Name d _] [] _ => decide (i = Str.ofString "isinstance") && x.gl i && decide (m = s) && decide (d = Str.ofString c) && x.gl d && plainN d && (Φ.xs c).isSome
  | _, _ => false
def chkZb (x : SX) (h : Cz) (nm : Option Str) (b : List Stmt) : Bool := match h.is, b with
  | none, [.Return (some v) _] => (h.cls != "ComeError" || nm.isNone) && chkSr x ((Φ.xs h.cls).getD []) nm h.r v
  | some (c, false), .If t [.Return (some v) _] [] _ :: _ => chkIz Φ x nm c t && chkSr x ((Φ.xs c).getD []) nm h.r v
  | some (c, true), [.Return (some (.IfExp t v _ _)) _] => chkIz Φ x nm c t && chkSr x ((Φ.xs c).getD []) nm h.r v
  | _, _ => false
def chkZ (x : SX) (h : Cz) (e : ExceptHandler) : Bool := match e with
  | .ExceptHandler (some (.Name n _)) nm (b :: bs) _ => decide (n = Str.ofString h.cls) && x.gl n && plainN n && Φ.hn h.cls && (match nm, h.nm with
      | none, none => true
      | some s, some i => decide (x.N[i]? = some s) && decide (x.sc.names.lookup s = some .local) && plainN s
      | _, _ => false) && chkZb Φ x h nm (b :: bs)
  | _ => false
def chkZs (x : SX) : List Cz → List ExceptHandler → Bool
  | [], [] => true
  | h :: r, e :: es => chkZ Φ x h e && chkZs x r es
  | _, _ => false
mutual
def chkS : Sm → SX → Stmt → Bool
  | .set i e, x, s => match s with
    | .Assign [.Name n _] v _ => chkNm x i (.Name n default) && chkC Φ e x v
    | _ => false
  | .unp l e, x, s => match s with
    | .Assign [.Tuple ts _ _] v _ => chkNms x l ts && chkC Φ e x v && unpOk v
    | _ => false
  | .par l es, x, s => match s with
    | .Assign [.Tuple ts _ _] (.Tuple vs _ _) _ => chkNms x l ts && chkCs Φ es x vs && parOk x ts vs
    | _ => false
  | .seti o i e, x, s => match s with
    | .Assign [.Subscript a b _] v _ => chkC Φ o x a && chkC Φ i x b && chkC Φ e x v
    | _ => false
  | .augi op o i e, x, s => match s with
    | .AugAssign (.Subscript a b _) q v _ => decide (q = op.op) && chkC Φ o x a && chkC Φ i x b && chkC Φ e x v
    | _ => false
  | .aug op i e, x, s => match s with
    | .AugAssign (.Name n _) q v _ => decide (q = op.op) && chkNm x i (.Name n default) && chkC Φ e x v
    | _ => false
  | .swp o i p j a b, x, s => match s with
    | .Assign [.Tuple [.Subscript eo ei _, .Subscript ep ej _] _ _] (.Tuple [ea, eb] _ _) _ => chkC Φ o x eo && chkC Φ i x ei && chkC Φ p x ep && chkC Φ j x ej && chkC Φ a x ea && chkC Φ b x eb
    | _ => false
  | .exp e, x, s => match s with
    | .Expr v _ => !isLC v && chkC Φ e x v
    | _ => false
  | .ret e, x, s => match s with
    | .Return (some v) _ => chkC Φ e x v
    | _ => false
  | .retN, x, s => match s with
    | .Return none _ => true
    | _ => false
  | .ife t a b, x, s => match s with
    | .If c p q _ => chkT Φ t x c && chkSs a x p && chkSs b x q
    | _ => false
  | .for_ tg it b, x, s => match s with
    | .For t i p [] _ => chkTg x tg t && chkI Φ it x t i && chkSs b x p
    | _ => false
  | .while_ t b, x, s => match s with
    | .While c p [] _ => chkT Φ t x c && chkSs b x p
    | _ => false
  | .brk, x, s => match s with
    | .Break _ => true
    | _ => false
  | .cnt, x, s => match s with
    | .Continue _ => true
    | _ => false
  | .pass, x, s => match s with
    | .Pass _ => true
    | _ => false
  | .raise c fs es, x, s => match s with
    | .Raise (some (.Call (.Name n _) (l :: r) [] _)) none _ => decide (n = Str.ofString c) && x.gl n && plainN n && decide (Φ.xs c = some fs) && chkCs Φ es x (l :: r)
    | _ => false
  | .try_ ks b hs, x, s => match s with
    | .Try p (e :: es) [] [] _ => chkSs b x p && chkZs Φ x hs (e :: es) && ks.all fun c => (Φ.xs c).isSome
    | _ => false
termination_by structural c => c
def chkSs : Sms → SX → List Stmt → Bool
  | .nil, _, l => match l with
    | [] => true
    | _ => false
  | .cons a r, x, l => match l with
    | s :: ss => chkS a x s && chkSs r x ss
    | _ => false
termination_by structural c => c
end
end

/-! ### meaning -/
variable [Tabs]
section
variable {K : PySem.W.Frag} {mg : Str → Option Value} {E : XK}
def PF (K : PySem.W.Frag) (Z : List Addr) (D : Ends) : F → Store → List Addr → Hp → Prop := fun f _ α H => match f with
  | .nx γ => ∀ σ, ER K Z α H γ σ → D.nx σ H
  | .ret m => ∀ v, Rep K Z α H m v → D.rt v H
  | .brk γ => ∀ σ, ER K Z α H γ σ → D.bk σ H
  | .cnt γ => ∀ σ, ER K Z α H γ σ → D.ct σ H
def tF (K : PySem.W.Frag) (mg : Str → Option Value) (E : XK) (e : Env → Store → R F) : TS := fun D σ H => tR K mg E e σ H fun Z => PF K Z D
end
section
variable {Φ : Tx} {x : SX} {X : Cx} {CX : CXT} {k : Nat} {E : XK}
abbrev rdS (X : Cx) (Φ : Tx) (k : Nat) (E : XK) (c : Sm) : TS := tF X.K X.mg E (ex (evalFn Φ k) c)
abbrev rdSs (X : Cx) (Φ : Tx) (k : Nat) (E : XK) (c : Sms) : TS := tF X.K X.mg E (exs (evalFn Φ k) c)
structure GoodS (Φ : Tx) (x : SX) (X : Cx) (CX : CXT) (k : Nat) (E : XK) : Prop where
  g : Good Φ x X CX k E
  own : PassesOwn (model X.prog X.w) X.A X.env X.xe
  kind : X.env.scope.kind = .function
  tkP : ∀ (Y : Cx) (E' : XK), Y.prog = X.prog → Y.w = X.w → Takes Y (fun c d _ H => E' c d H) → Passes CX Y E'
  tk : Takes X (fun c d _ H => E c d H)
  stk : X.stack = X.env :: X.outer
  frm : X.env.frame = some X.env.locals

theorem set_wk {i : Nat} {e : C} : ∀ D σ H, rdS X Φ k E (.set i e) D σ H → rdC X Φ k E e σ H fun v H1 => gName i v σ H1 D.nx := by
  rintro D σ H ⟨Z, α, S, γ, s, er, h⟩
  simp only [ex] at h
  refine ⟨Z, α, S, γ, s, er, h.bind.imp fun m S1 α1 H1 t1 s1 h v rv => ?_⟩
  exact h.now s1 _ ((er.tr s.muts t1).set rv)
theorem nm_of {i : Nat} {n : Str} {p : Pos} (g : Good Φ x X CX k E) (h : chkNm x i (.Name n p) = true) : X.N[i]? = some n ∧ L2.Loc X.env.scope n ∧ (X.fn n = true ∨ X.env.scope.names.lookup n = some .local) := by
  unfold chkNm at h
  simp only [Bool.and_eq_true, decide_eq_true_eq] at h
  exact ⟨by rw [g.eN]; exact h.1, (g.loc h.2).1, (g.loc h.2).2⟩
theorem sw_no {c : C} {v : Expr} {t : Option Expr} {n : Nat} {env : PySem.Env} (h : chkC Φ c x v = true) (hl : isLC v = false) : swapsWith v t n env = pure false := by
  cases v <;> first
    | rfl
    | exact absurd hl.symm Bool.false_ne_true
    | (exfalso; cases c <;> first | exact Bool.false_ne_true h | (rename_i q; cases q <;> exact Bool.false_ne_true h))
theorem sw_sub {c : C} {v a b : Expr} {p : Pos} {n : Nat} {env : PySem.Env} (h : chkC Φ c x v = true) : swapsWithSole [.Subscript a b p] v n env = pure false := by
  cases v <;> rfl
theorem sw_tup {v : Expr} {ts : List Expr} {j : Nat} {p : Pos} {n : Nat} {env : PySem.Env} : swapsWithSole [.Tuple ts j p] v n env = pure false := by
  cases v <;> rfl
theorem ss_sub {v a b : Expr} {p : Pos} {env : PySem.Env} : swappedStores [.Subscript a b p] v env = pure none := by
  cases v <;> rfl
theorem ss_tup {v : Expr} {ts : List Expr} {j : Nat} {p : Pos} {env : PySem.Env} (h : unpOk v = true) : swappedStores [.Tuple ts j p] v env = pure none := by
  cases v <;> first
    | rfl
    | (have h' : List.all _ (foldedForSure 8) = true := h
       simp [swappedStores, h'])
theorem ss_2 {a b : Str} {u v : Expr} {pa pb pt p2 : Pos} {kt k2 : Nat} {env : PySem.Env} (hk' : env.blockKind = .function) (hu : odd u = false) (hv : odd v = false) (hl : (pb.line == pa.line) = true) (ha : env.scope.names.lookup a = some .local) (hb : env.scope.names.lookup b = some .local) (hab : a ≠ b)
    (hf : (foldedForSure 8 u && foldedForSure 8 v) = false) (hc : (constantsAlone 8 u && constantsAlone 8 v) = false) : swappedStores [.Tuple [.Name a pa, .Name b pb] kt pt] (.Tuple [u, v] k2 p2) env = pure (some [a, b]) := by
  have nu : ∀ e : Expr, odd e = false → ∀ a p, e ≠ .Starred a p := fun e h a p q => by rw [q] at h; exact Bool.false_ne_true h.symm
  have e1 : env.kindOf a = some .local := ha
  have e2 : env.kindOf b = some .local := hb
  have e3 : env.blockKind = .function := hk'
  have lb : pb.line = pa.line := by simpa using hl
  have hba : (b == a) = false := by simpa using Ne.symm hab
  unfold swappedStores
  simp [e1, e2, e3, lb, hf, hc, hab, hba, Expr.pos, List.eraseDups, List.eraseDupsBy, List.eraseDupsBy.loop, List.filterMap_cons]
  rintro (h | h) <;> (split at h <;> first | (exact absurd rfl (nu _ hu _ _)) | (exact absurd rfl (nu _ hv _ _)) | cases h)
theorem ss_3 {a b c : Str} {u v w : Expr} {pa pb pc pt p2 : Pos} {kt k2 : Nat} {env : PySem.Env} (hk' : env.blockKind = .function) (hu : odd u = false) (hv : odd v = false) (hw : odd w = false) (hl : (pb.line == pa.line) = true) (hl' : (pc.line == pa.line) = true)
    (ha : env.scope.names.lookup a = some .local) (hb : env.scope.names.lookup b = some .local) (hc : env.scope.names.lookup c = some .local) (hab : a ≠ b) (hac : a ≠ c) (hbc : b ≠ c)
    (hf : (foldedForSure 8 u && foldedForSure 8 v && foldedForSure 8 w) = false) (hq : (constantsAlone 8 u && constantsAlone 8 v && constantsAlone 8 w) = false) : swappedStores [.Tuple [.Name a pa, .Name b pb, .Name c pc] kt pt] (.Tuple [u, v, w] k2 p2) env = pure (some [a, b, c]) := by
  have nu : ∀ e : Expr, odd e = false → ∀ a p, e ≠ .Starred a p := fun e h a p q => by rw [q] at h; exact Bool.false_ne_true h.symm
  have e1 : env.kindOf a = some .local := ha
  have e2 : env.kindOf b = some .local := hb
  have e4 : env.kindOf c = some .local := hc
  have e3 : env.blockKind = .function := hk'
  have lb : pb.line = pa.line := by simpa using hl
  have lc : pc.line = pa.line := by simpa using hl'
  have hba : (b == a) = false := by simpa using Ne.symm hab
  have hca : (c == a) = false := by simpa using Ne.symm hac
  have hcb : (c == b) = false := by simpa using Ne.symm hbc
  unfold swappedStores
  simp [e1, e2, e3, e4, lb, lc, hf, hq, hab, hba, hca, hcb, Expr.pos, List.eraseDups, List.eraseDupsBy, List.eraseDupsBy.loop, List.filterMap_cons]
  have hf' : ¬ (foldedForSure 8 u = true ∧ foldedForSure 8 v = true ∧ foldedForSure 8 w = true) := fun q => by rw [q.1, q.2.1, q.2.2] at hf; cases hf
  have hq' : ¬ (constantsAlone 8 u = true ∧ constantsAlone 8 v = true ∧ constantsAlone 8 w = true) := fun q => by rw [q.1, q.2.1, q.2.2] at hq; cases hq
  rw [if_neg ?_, if_neg hf', if_neg hq']
  rintro (h | h | h) <;> (split at h <;> first | (exact absurd rfl (nu _ hu _ _)) | (exact absurd rfl (nu _ hv _ _)) | (exact absurd rfl (nu _ hw _ _)) | cases h)
end
end Mi

namespace Mi
open PySem PySem.Spec L2 PyProof.Rows
variable [Tabs]

/-! ### small parts -/
def rAug : Bop → TIp
  | .add => ipI fun i j => i + j
  | .sub => ipI fun i j => i - j
  | _ => fun _ _ _ _ => False
theorem ip_aug {X : Cx} (o : Bop) : PIp X o.op (rAug o) := by
  cases o <;> first
    | exact ip_add
    | exact ip_sub
    | exact fun _ _ _ _ _ _ _ _ _ _ _ _ h => False.elim h
/-- xs[i] of a list, by values -/
def rGetL : V → V → Hp → VK → Prop := fun o i H Q => ∃ a xs k y, o = .ref a ∧ i = .int k ∧ H a = some (.lst xs) ∧ atI xs k = some y ∧ Q y H
theorem get_list {X : Cx} : PGet X rGetL := by
  intro pins s σ H o i ov iv Q I ro ri h
  obtain ⟨a, xs, k, y, rfl, rfl, ha, hk, q⟩ := h
  cases ro
  obtain ⟨t, rfl⟩ := ri
  obtain ⟨its, n, r, ho, hz⟩ := I.lst ha
  have isL : s.heap.IsList a its.toArray := ⟨_, ho, rfl, n, rfl⟩
  obtain ⟨j, h1, h2, h3, h4, h5⟩ := atI_get hk
  obtain ⟨w, ew, rw'⟩ := r.get h2
  have hl := r.length
  have hn := line63
  have fin : EP X pins σ Q w s := ⟨y, H, I, rw', q⟩
  by_cases h0 : 0 ≤ k
  · have hj : k.toNat = j := by
      rw [seqIndex_of h0 h5] at h1
      exact Option.some.inj h1
    exact wpAny_getItem_list isL h0 (by omega) (by rw [hj]; simpa using ew) fin
  · have hj : (k + (its.toArray.size : Int)).toNat = j := by
      rw [seqIndex_neg (by omega) h4] at h1
      rw [List.size_toArray, ← hl]
      exact Option.some.inj h1
    exact wpAny_getItem_list_neg isL (by omega) (by rw [List.size_toArray] <;> omega) (by omega) (by rw [hj]; simpa using ew) fin
section
variable {K : PySem.W.Frag} {mg : Str → Option Value} {E : XK} {Z α : List Addr} {H : Hp} {S : Store} {Q : VK}
theorem aug_out {o : Bop} {m n : M} {x y : V} (s : SR K Z α H S) (rx : Rep K Z α H m x) (ry : Rep K Z α H n y) (h : Out K Z mg E (augop o m n S) α H (PM K Z Q)) : rAug o x y H Q := by
  unfold augop at h
  split at h
  · exact ⟨_, _, rep_int rx, rep_int ry, out_int s h⟩
  · exact ⟨_, _, rep_int rx, rep_int ry, out_int s h⟩
  · exact False.elim h
theorem ixl_out {m n : M} {x y : V} (s : SR K Z α H S) (rx : Rep K Z α H m x) (ry : Rep K Z α H n y) (h : Out K Z mg E (ixlop m n S) α H (PM K Z Q)) : rGetL x y H Q := by
  unfold ixlop at h
  split at h
  · obtain ⟨ms, e1, h⟩ := h.of
    obtain ⟨m, e2, h⟩ := h.of
    obtain ⟨a, xs, rfl, hs, r⟩ := lst_rep s rx e1
    obtain ⟨v, e3, rv⟩ := atI_rep r e2
    exact ⟨a, xs, _, v, rfl, rep_int ry, hs, e3, out_val s rv h⟩
  · exact False.elim h
end
section
variable {Φ : Tx} {x : SX} {X : Cx} {CX : CXT} {k : Nat} {E : XK}
theorem par_nms {l : List Nat} {es : List Expr} (g : Good Φ x X CX k E) (h : chkNms x l es = true) : l.length = es.length := by
  induction l generalizing es with
  | nil => cases es with
    | nil => rfl
    | cons e es => unfold chkNms at h; cases h
  | cons i l ih =>
    cases es with
    | nil => unfold chkNms at h; cases h
    | cons e es =>
      unfold chkNms at h
      simp only [Bool.and_eq_true] at h
      rw [List.length_cons, List.length_cons, ih h.2]
theorem nm_of' {i : Nat} {n : Str} {p : Pos} (g : Good Φ x X CX k E) (h : chkNm x i (.Name n p) = true) : X.N[i]? = some n := (nm_of g h).1
theorem ix_ne {N : List Str} {i j : Nat} {a b : Str} (h1 : N[i]? = some a) (h2 : N[j]? = some b) (h : a ≠ b) : i ≠ j := fun q => h (by rw [q, h2] at h1; exact (Option.some.inj h1).symm)
theorem l_par {l : List Nat} {es : Cs} {ts vs : List Expr} {j j2 : Nat} {tp vp pos : Pos} (g : GoodS Φ x X CX k E) (hn : chkNms x l ts = true) (hc : chkCs Φ es x vs = true) (hp : parOk x ts vs = true) : PS X (.Assign [.Tuple ts j tp] (.Tuple vs j2 vp) pos) (rdS X Φ k E (.par l es)) := by
  have gg := g.g
  unfold parOk at hp
  simp only [Bool.and_eq_true, decide_eq_true_eq] at hp
  obtain ⟨hk, hp⟩ := hp
  have hbk : X.env.blockKind = .function := by unfold Env.blockKind; rw [g.kind]; rfl
  have odd := chks_odd hc
  have sc := gg.eS
  split at hp
  · rename_i a pa b pb u v
    simp only [Bool.and_eq_true, decide_eq_true_eq, Bool.not_eq_true'] at hp
    obtain ⟨⟨⟨⟨⟨hl, ha⟩, hb⟩, hab⟩, hf⟩, hq⟩ := hp
    have hlen := par_nms gg hn
    obtain ⟨i1, i2, rfl⟩ : ∃ i1 i2, l = [i1, i2] := by
      match l, hlen with
      | [i1, i2], _ => exact ⟨i1, i2, rfl⟩
    unfold chkNms at hn
    simp only [Bool.and_eq_true] at hn
    obtain ⟨h1, hn⟩ := hn
    unfold chkNms at hn
    simp only [Bool.and_eq_true] at hn
    have n1 := nm_of' gg h1
    have n2 := nm_of' gg hn.1
    refine PS.wk (ps_par gg.calm gg.nd n1 n2 (ix_ne n1 n2 hab) (by rw [sc]; exact ha) (by rw [sc]; exact hb) (soCs es gg hc) (ss_2 hbk (odd u (by simp)) (odd v (by simp)) hl (by rw [sc]; exact ha) (by rw [sc]; exact hb) hab hf hq)) ?_
    rintro D σ H ⟨Z, α, S, γ, s, er, h⟩
    simp only [ex] at h
    refine ⟨Z, α, S, γ, s, er, h.bind.imp fun ms S1 α1 H1 t1 s1 h vs r => ?_⟩
    obtain ⟨c, h⟩ := h.when
    obtain ⟨m1, m2, rfl⟩ : ∃ m1 m2, ms = [m1, m2] := by
      match ms, c with
      | [m1, m2], _ => exact ⟨m1, m2, rfl⟩
    obtain ⟨y, z, rfl, r1, r2⟩ := repl2 r
    exact ⟨y, z, rfl, h.now s1 _ (ER.setAll (er.tr s.muts t1) r)⟩
  · rename_i a pa b pb c pc u v w
    simp only [Bool.and_eq_true, decide_eq_true_eq, Bool.not_eq_true'] at hp
    obtain ⟨⟨⟨⟨⟨⟨⟨⟨⟨hl, hl'⟩, ha⟩, hb⟩, hc'⟩, hab⟩, hac⟩, hbc⟩, hf⟩, hq⟩ := hp
    have hlen := par_nms gg hn
    obtain ⟨i1, i2, i3, rfl⟩ : ∃ i1 i2 i3, l = [i1, i2, i3] := by
      match l, hlen with
      | [i1, i2, i3], _ => exact ⟨i1, i2, i3, rfl⟩
    unfold chkNms at hn
    simp only [Bool.and_eq_true] at hn
    obtain ⟨h1, hn⟩ := hn
    unfold chkNms at hn
    simp only [Bool.and_eq_true] at hn
    obtain ⟨h2, hn⟩ := hn
    unfold chkNms at hn
    simp only [Bool.and_eq_true] at hn
    have n1 := nm_of' gg h1
    have n2 := nm_of' gg h2
    have n3 := nm_of' gg hn.1
    refine PS.wk (ps_par3 gg.calm gg.nd n1 n2 n3 (ix_ne n1 n2 hab) (ix_ne n1 n3 hac) (ix_ne n2 n3 hbc) (by rw [sc]; exact ha) (by rw [sc]; exact hb) (by rw [sc]; exact hc') (soCs es gg hc) (ss_3 hbk (odd u (by simp)) (odd v (by simp)) (odd w (by simp)) hl hl' (by rw [sc]; exact ha) (by rw [sc]; exact hb) (by rw [sc]; exact hc') hab hac hbc hf hq)) ?_
    rintro D σ H ⟨Z, α, S, γ, s, er, h⟩
    simp only [ex] at h
    refine ⟨Z, α, S, γ, s, er, h.bind.imp fun ms S1 α1 H1 t1 s1 h vs r => ?_⟩
    obtain ⟨c, h⟩ := h.when
    obtain ⟨m1, m2, m3, rfl⟩ : ∃ m1 m2 m3, ms = [m1, m2, m3] := by
      match ms, c with
      | [m1, m2, m3], _ => exact ⟨m1, m2, m3, rfl⟩
    have r' := r
    simp only [RepL] at r'
    obtain ⟨y, _, rfl, r1, z, _, rfl, r2, w', _, rfl, r3, rfl⟩ := r'
    exact ⟨y, z, w', rfl, h.now s1 _ (ER.setAll (er.tr s.muts t1) r)⟩
  · cases hp
/-- name = value -/
theorem l_set {i : Nat} {e : C} {n : Str} {p pos : Pos} {v : Expr} (g : GoodS Φ x X CX k E) (hn : chkNm x i (.Name n p) = true) (he : chkC Φ e x v = true) : PS X (.Assign [.Name n p] v pos) (rdS X Φ k E (.set i e)) := by
  have gg := g.g
  have hbk : X.env.blockKind = .function := by unfold Env.blockKind; rw [g.kind]; rfl
  obtain ⟨h1, h2, h3⟩ := nm_of gg hn
  cases hl : isLC v with
  | false => exact PS.wk (ps_set gg.nd h1 h2 (soC e gg he) (sw_no he hl) h3) set_wk
  | true =>
    cases v <;> first | exact absurd hl Bool.false_ne_true | skip
    rename_i el gens scope lp
    cases hs : (X.env.blockKind == .function && X.env.kindOf n == some .local && p.line == lp.line && !(scope.names.any fun (m, q) => m == n && (q == .local || q == .cell))) with
    | false =>
      refine PS.wk (ps_set gg.nd h1 h2 (soC e gg he) ?_ h3) set_wk
      show pure _ = pure false
      rw [← hs]; rfl
    | true =>
      have hloc : X.env.scope.names.lookup n = some .local := by
        simp only [Bool.and_eq_true] at hs
        exact eq_of_beq hs.1.1.2
      have hsw : ∀ gens, swapsWith (.ListComp el gens scope lp) (some (.Name n p)) pos.line X.env = pure true := fun gens => by
        show pure _ = pure true
        rw [← hs]; rfl
      cases e <;> first
        | (exfalso; exact Bool.false_ne_true he)
        | (exfalso; rename_i q; cases q <;> exact Bool.false_ne_true he)
        | skip
      · rename_i al tg it ifs ee own
        simp only [chkC] at he
        split at he
        · rename_i heq
          cases heq
          simp only [Bool.and_eq_true] at he
          obtain ⟨⟨⟨⟨⟨hb, hs'⟩, htg⟩, hi⟩, hf⟩, he⟩ := he
          have hbk' : blkC X.N X.env.scope scope (ownP x.N own) = true := by rw [gg.eN, gg.eS]; exact hb
          refine PS.wk (ps_setLc (wi := rdI X Φ k E it) (g := rdG X.K tg) (tt := rdF X Φ k E00 ifs) (te := rdC X Φ k E00 ee) gg.calm gg.nd h1 hloc (hsw _) (soI it gg hi) (blkOk_by hbk') (fun s H C cl fp => l_tg (gg.blk s H C cl fp _) htg) (fun s H C cl fp => soF ifs (gg.blk s H C cl fp _) hf) (fun s H C cl fp => soC ee (gg.blk s H C cl fp _) he) (fun z => odd_fold (chkI_odd hi) _ z)) ?_
          intro D σ H hq
          have hq' := set_wk D σ H hq
          show tLc _ _ _ _ _ σ H _
          rw [own_snd]
          exact l_lc (p := default) gg hb hs' (soI it gg hi) (.inl (chkI_odd hi)) (fun s H C cl fp => l_tg (gg.blk s H C cl fp _) htg) (fun s H C cl fp => soF ifs (gg.blk s H C cl fp _) hf) (fun s H C cl fp => soC ee (gg.blk s H C cl fp _) he) σ H _ hq'
        · cases he
      · rename_i al tg it tg2 it2 ifs ee own own2
        simp only [chkC] at he
        split at he
        · rename_i heq
          cases heq
          simp only [Bool.and_eq_true] at he
          obtain ⟨⟨⟨⟨⟨⟨⟨⟨⟨hb, hs'⟩, hs2⟩, hso⟩, htg⟩, hi⟩, htg2⟩, hi2⟩, hf⟩, he⟩ := he
          have hbk' : blkC X.N X.env.scope scope (ownP x.N own) = true := by rw [gg.eN, gg.eS]; exact hb
          refine PS.wk (ps_setLc2 (wi := rdI X Φ k E it) (g := rdG X.K tg) (tt := rdF X Φ k E00 .no) (wi1 := rdI X Φ k E00 it2) (g1 := rdG X.K tg2) (tt1 := rdF X Φ k E00 ifs) (te := rdC X Φ k E00 ee) (vs1 := own2) gg.calm gg.nd h1 hloc (hsw _) (soI it gg hi) (blkOk_by hbk') (fun j hj => by rw [own_snd]; exact of_decide_eq_true (List.all_eq_true.mp hso j hj))
            (fun s H C cl fp => l_tg (gg.blk s H C cl fp _) htg) (fun s H C cl fp => l_fno) (fun s H C cl fp => soI it2 (gg.blk s H C cl fp _) hi2) (fun s H C cl fp => l_tg (gg.blk s H C cl fp _) htg2) (fun s H C cl fp => soF ifs (gg.blk s H C cl fp _) hf) (fun s H C cl fp => soC ee (gg.blk s H C cl fp _) he) (fun z => odd_fold (chkI_odd hi) _ z) (fun env z => odd_fold (chkI_odd hi2) _ z)) ?_
          intro D σ H hq
          have hq' := set_wk D σ H hq
          show tLc2 _ _ _ _ _ _ _ _ _ σ H _
          rw [own_snd]
          exact l_lc2 hs' hs2 σ H _ hq'
        · cases he
end
end Mi

namespace Mi
open PySem PySem.Spec L2
variable [Tabs]
/-! ### raise -/
section
variable {K : PySem.W.Frag} {mg : Str → Option Value} {E : XK} {Z α : List Addr} {H : Hp} {S : Store}
/-- the fields of a made exception, by name -/
theorem zip_rev : ∀ {fs : List String} {ms : List M} {vs : List V}, (fs.map Str.ofString).Nodup → RepL K Z α H ms vs → ∀ f m, (f, m) ∈ fs.zip ms → ∃ v, ((fs.map Str.ofString).zip vs).reverse.lookup (Str.ofString f) = some v ∧ Rep K Z α H m v
  | [], ms, vs, nd, r, f, m, h => by simp at h
  | g :: fs, [], vs, nd, r, f, m, h => by simp at h
  | g :: fs, n :: ms, vs, nd, r, f, m, h => by
    simp only [RepL] at r
    obtain ⟨y, ys, rfl, r1, r2⟩ := r
    rw [List.map_cons] at nd ⊢
    obtain ⟨n1, n2⟩ := List.nodup_cons.mp nd
    rw [List.zip_cons_cons, List.reverse_cons, List.lookup_append]
    rw [List.zip_cons_cons] at h
    rcases List.mem_cons.mp h with e | h
    · have hfg : f = g := (Prod.mk.inj e).1
      have hmn : m = n := (Prod.mk.inj e).2
      subst hfg hmn
      have hn : ((fs.map Str.ofString).zip ys).reverse.lookup (Str.ofString f) = none := by
        cases q : ((fs.map Str.ofString).zip ys).reverse.lookup (Str.ofString f) with
        | none => rfl
        | some z => exact absurd (List.of_mem_zip (List.mem_reverse.mp (PySem.mem_of_lookup q))).1 n1
      rw [hn]
      exact ⟨y, by simp [List.lookup], r1⟩
    · obtain ⟨v, e1, e2⟩ := zip_rev n2 r2 f m h
      rw [e1]
      exact ⟨v, rfl, e2⟩
end
section
variable {Φ : Tx} {x : SX} {X : Cx} {CX : CXT} {k : Nat} {E : XK}
theorem l_raise {c : String} {fs : List String} {es : Cs} {n : Str} {e : Expr} {l : List Expr} {p q pos : Pos} (g : GoodS Φ x X CX k E) (hn : n = Str.ofString c) (hg : x.gl n = true) (hp : plainN n = true) (hx : Φ.xs c = some fs) (ha : PA X (e :: l) (rdCs X Φ k E es)) (ho : AllOdd (e :: l)) :
    PS X (.Raise (some (.Call (.Name n p) (e :: l) [] q)) none pos) (rdS X Φ k E (.raise c fs es)) := by
  subst hn
  have xo := g.g.xok c fs hx
  obtain ⟨C, fI, fd, hm, T, iC, tI, F, hb, hxf, hno⟩ := xo.ex
  have hl20 := xo.le
  have mk := pmk_oex (X := X) (k := 1) (p := p) (pos := q) T iC tI F (g.g.room.mono (by omega)) hb .nil (g.g.pass0 X rfl rfl) (g.g.gl hg) hm ha (plainN_of hp).1 (odd_star (ho e List.mem_cons_self) l X.env) (stars_off (fun e he => ho e (List.mem_cons_of_mem _ he)) q X.env)
  refine PS.wk (ps_raise g.g.calm g.tk mk) ?_
  rintro D σ H ⟨Z, α, S, γ, s, er, h⟩
  simp only [ex] at h
  refine ⟨Z, α, S, γ, s, er, h.bind.imp fun ms S1 α1 H1 t1 s1 h vs r => ?_⟩
  obtain ⟨hl, h⟩ := h.when
  have hvs : vs.length = (fs.map Str.ofString).length := by rw [← r.length, List.length_map, hl]
  refine Mx.mkO_of hvs (by rw [List.length_map]; omega) fun d hd => ?_
  have h : EW X.K Z X.mg E ⟨c, fs.zip ms⟩ S1 α1 H1 := h
  have t := Tr.new (o := .xd ((fs.map Str.ofString).zip vs).reverse) s1 hd
  refine h α1 _ (.ref C) (some d) t (s1.new hd) ⟨hm, d, _, rfl, upd_same, fun f m hfm => ?_⟩
  obtain ⟨v, e1, e2⟩ := zip_rev xo.nd (RepL.tr s1.muts t _ _ r) f m hfm
  exact ⟨v, e1, e2⟩
/-! ### except clauses -/
theorem kon_rep {K : PySem.W.Frag} {Z α : List Addr} {H : Hp} (q : Kon) : Rep K Z α H q.m q.v := by
  cases q <;> simp only [Kon.m, Kon.v, Rep]
def tSa (C a : Addr) (cls : Value) (d : Option Addr) (i : Nat) : Sa → TE
  | .con q => tC q.v
  | .fld f => tXf a cls d C (Str.ofString f) (tVar i)
def tSas (C a : Addr) (cls : Value) (d : Option Addr) (i : Nat) : List Sa → TA
  | [] => tNil
  | s :: r => tCons (tSa C a cls d i s) (tSas C a cls d i r)
def tSr (C a : Addr) (cls : Value) (d : Option Addr) (i : Nat) : Sr → TE
  | .one s => tSa C a cls d i s
  | .tup l => tTup (tSas C a cls d i l)
/-- the suite's context and the class whose fields are read -/
structure SuC (x : SX) (Y : Cx) (fs : List String) (nm : Option Str) (i : Nat) (C : Addr) : Prop where
  nm : ∀ s, nm = some s → Y.N[i]? = some s ∧ Y.env.scope.names.lookup s = some .local ∧ plainN s = true
  xf : fs ≠ [] → XfC Y.K C ∧ ∀ f ∈ fs, PySem.W.findIn Y.K (.ref C) (Str.ofString f) = some none
theorem sa_pe {fs : List String} {nm : Option Str} {i : Nat} {C a : Addr} {oe : Obj} {cls : Value} {d : Option Addr} {pn : List (Addr × Obj)} (u : SuC x X fs nm i C) (hz : Zc cls d oe) (hf : ∃ vs, oe.data = .fields vs) :
    ∀ (s : Sa) (e : Expr), chkSa x fs nm s e = true → PE (X.suite a ((a, oe) :: pn)) e (tSa C a cls d i s) ∧ starEach [e] X.env = [(false, eval e X.env)] ∧ ∀ es, starEach (e :: es) X.env = (false, eval e X.env) :: starEach es X.env
  | .con q, e, h => by
    simp only [chkSa] at h
    split at h
    · exact ⟨pe_non, rfl, fun _ => rfl⟩
    · have h := eq_of_beq h
      subst h
      exact ⟨pe_bl, rfl, fun _ => rfl⟩
    · have h := eq_of_beq h
      subst h
      exact ⟨pe_int, rfl, fun _ => rfl⟩
    · have h := of_decide_eq_true h
      subst h
      exact ⟨pe_str, rfl, fun _ => rfl⟩
    · cases h
  | .fld f, e, h => by
    simp only [chkSa] at h
    split at h
    · rename_i s m mp n ap
      simp only [Bool.and_eq_true, decide_eq_true_eq] at h
      obtain ⟨⟨h1, h2⟩, h3⟩ := h
      subst h1 h2
      obtain ⟨n1, n2, n3⟩ := u.nm _ rfl
      have hne : fs ≠ [] := fun z => by rw [z] at h3; cases h3
      obtain ⟨hx, hno⟩ := u.xf hne
      refine ⟨pe_xf hx (hno f h3) hz hf (pe_var (X := X.suite a ((a, oe) :: pn)) (i := i) n1 (.inl n2) (plainN_of n3).1 (plainN_of n3).2), rfl, fun _ => rfl⟩
    · cases h
theorem sas_pe {fs : List String} {nm : Option Str} {i : Nat} {C a : Addr} {oe : Obj} {cls : Value} {d : Option Addr} {pn : List (Addr × Obj)} (u : SuC x X fs nm i C) (hz : Zc cls d oe) (hf : ∃ vs, oe.data = .fields vs) :
    ∀ (l : List Sa) (es : List Expr), chkSas x fs nm l es = true → PA (X.suite a ((a, oe) :: pn)) es (tSas C a cls d i l)
  | [], [], _ => pa_nil
  | [], _ :: _, h => by unfold chkSas at h; cases h
  | _ :: _, [], h => by unfold chkSas at h; cases h
  | s :: r, e :: es, h => by
    unfold chkSas at h
    simp only [Bool.and_eq_true] at h
    obtain ⟨h1, _, h3⟩ := sa_pe u hz hf s e h.1
    exact pa_cons h1 (sas_pe u hz hf r es h.2) (h3 es)
theorem sr_pe {fs : List String} {nm : Option Str} {i : Nat} {C a : Addr} {oe : Obj} {cls : Value} {d : Option Addr} {pn : List (Addr × Obj)} (u : SuC x X fs nm i C) (hz : Zc cls d oe) (hf : ∃ vs, oe.data = .fields vs) :
    ∀ (r : Sr) (e : Expr), chkSr x fs nm r e = true → PE (X.suite a ((a, oe) :: pn)) e (tSr C a cls d i r)
  | .one s, e, h => (sa_pe u hz hf s e h).1
  | .tup l, e, h => by
    simp only [chkSr] at h
    split at h
    · simp only [Bool.and_eq_true] at h
      exact pe_tup (sas_pe u hz hf l _ h.2)
    · cases h
end
/-! ### what a suite's reading gives -/
section
variable {K : PySem.W.Frag} {mg : Str → Option Value} {E : XK} {Z α : List Addr} {H : Hp} {S : Store}
/-- the caught exception as the suite sees it -/
structure See (K : PySem.W.Frag) (Z : List Addr) (mg : Str → Option Value) (α : List Addr) (H : Hp) (x : Ex) (C a : Addr) (cls : Value) (d : Option Addr) (σ : Slots) (i : Nat) (fl : Bool) : Prop where
  ex : ExR K Z mg α H x cls d
  cl : fl = true → cls = .ref C ∧ σ[i]? = some (some (.ref a))
theorem mem_lkS : ∀ {l : List (String × M)} {f : String} {m : M}, l.lookup f = some m → (f, m) ∈ l
  | [], f, m, h => by cases h
  | (g, n) :: l, f, m, h => by
    rw [List.lookup_cons] at h
    split at h
    · rename_i e
      cases h
      rw [eq_of_beq e]
      exact List.mem_cons_self
    · exact List.mem_cons_of_mem _ (mem_lkS h)
def Sa.ok (fl : Bool) : Sa → Prop
  | .con _ => True
  | .fld _ => fl = true
def Sr.ok (fl : Bool) : Sr → Prop
  | .one s => s.ok fl
  | .tup l => l.length ≤ 20 ∧ ∀ s ∈ l, s.ok fl
theorem sa_out {x : Ex} {C a : Addr} {cls : Value} {d : Option Addr} {σ : Slots} {i : Nat} {fl : Bool} {Q : VK} : ∀ (s : Sa) {m : M}, s.ok fl → See K Z mg α H x C a cls d σ i fl → s.ev x = some m → (∀ v, Rep K Z α H m v → Q v H) → tSa C a cls d i s σ H Q
  | .con q, m, _, w, e, h => by
    simp only [Sa.ev, Option.some.injEq] at e
    subst e
    exact h _ (kon_rep q)
  | .fld f, m, o, w, e, h => by
    simp only [Sa.ev] at e
    obtain ⟨ec, es⟩ := w.cl o
    obtain ⟨_, dd, fs, ed, hd, hr⟩ := w.ex
    obtain ⟨v, e1, e2⟩ := hr f m (mem_lkS e)
    exact ⟨.ref a, es, rfl, ec, dd, fs, v, ed, hd, e1, h v e2⟩
theorem sas_out {x : Ex} {C a : Addr} {cls : Value} {d : Option Addr} {σ : Slots} {i : Nat} {fl : Bool} : ∀ (l : List Sa) {ms : List M} {Q : List V → Hp → Prop}, (∀ s ∈ l, s.ok fl) → See K Z mg α H x C a cls d σ i fl → Sas.ev x l = some ms → (∀ vs, RepL K Z α H ms vs → Q vs H) → tSas C a cls d i l σ H Q
  | [], ms, Q, _, w, e, h => by
    simp only [Sas.ev, Option.some.injEq] at e
    subst e
    exact h [] (by simp only [RepL])
  | s :: r, ms, Q, o, w, e, h => by
    simp only [Sas.ev] at e
    obtain ⟨m, e1, e⟩ := Option.bind_eq_some_iff.mp e
    obtain ⟨ms', e2, rfl⟩ := Option.map_eq_some_iff.mp e
    exact sa_out s (o s List.mem_cons_self) w e1 fun v rv => sas_out r (fun s hs => o s (List.mem_cons_of_mem _ hs)) w e2 fun vs rvs => h (v :: vs) (by simp only [RepL]; exact ⟨v, vs, rfl, rv, rvs⟩)
theorem sas_len {x : Ex} : ∀ (l : List Sa) {ms : List M}, Sas.ev x l = some ms → ms.length = l.length
  | [], ms, e => by
    simp only [Sas.ev, Option.some.injEq] at e
    subst e
    rfl
  | s :: r, ms, e => by
    simp only [Sas.ev] at e
    obtain ⟨m, e1, e⟩ := Option.bind_eq_some_iff.mp e
    obtain ⟨ms', e2, rfl⟩ := Option.map_eq_some_iff.mp e
    rw [List.length_cons, List.length_cons, sas_len r e2]
theorem sr_out {x : Ex} {C a : Addr} {cls : Value} {d : Option Addr} {σ : Slots} {i : Nat} {fl : Bool} {Q : VK} : ∀ (r : Sr) {m : M}, r.ok fl → See K Z mg α H x C a cls d σ i fl → SR K Z α H S → r.ev x = some m → Out K Z mg E (.ok m S) α H (PM K Z Q) → tSr C a cls d i r σ H Q
  | .one s, m, o, w, sr, e, h => sa_out s o w e fun v rv => out_val sr rv h
  | .tup l, m, hl, w, sr, e, h => by
    simp only [Sr.ev] at e
    obtain ⟨ms, e1, rfl⟩ := Option.map_eq_some_iff.mp e
    refine sas_out l hl.2 w e1 fun vs rvs => ⟨?_, fun p hp => Out.mkT sr rvs hp h⟩
    have := sas_len l e1
    have hl : l.length ≤ 20 := hl.1
    rw [← rvs.length, sizeLine_eq]
    omega
theorem sa_okc {x : SX} {fs : List String} {nm : Option Str} : ∀ (s : Sa) (e : Expr), chkSa x fs nm s e = true → s.ok (!fs.isEmpty && nm.isSome)
  | .con _, _, _ => trivial
  | .fld f, e, h => by
    simp only [chkSa] at h
    split at h
    · simp only [Bool.and_eq_true, decide_eq_true_eq] at h
      cases fs with
      | nil => cases h.2
      | cons => rfl
    · cases h
theorem sas_okc {x : SX} {fs : List String} {nm : Option Str} : ∀ (l : List Sa) (es : List Expr), chkSas x fs nm l es = true → ∀ s ∈ l, s.ok (!fs.isEmpty && nm.isSome)
  | [], _, _, s, hs => by cases hs
  | a :: r, [], h, _, _ => by unfold chkSas at h; cases h
  | a :: r, e :: es, h, s, hs => by
    unfold chkSas at h
    simp only [Bool.and_eq_true] at h
    rcases List.mem_cons.mp hs with rfl | hs
    · exact sa_okc _ e h.1
    · exact sas_okc r es h.2 s hs
theorem sr_okc {x : SX} {fs : List String} {nm : Option Str} (r : Sr) (e : Expr) (h : chkSr x fs nm r e = true) : r.ok (!fs.isEmpty && nm.isSome) := by
  cases r with
  | one s => exact sa_okc (x := x) s e h
  | tup l =>
    simp only [chkSr] at h
    split at h
    · simp only [Bool.and_eq_true, decide_eq_true_eq] at h
      exact ⟨h.1, sas_okc (x := x) l _ h.2⟩
    · cases h
end
section
variable {Φ : Tx} {x : SX} {X : Cx} {CX : CXT} {k : Nat} {E : XK}
/-- what an air's wish may ask of the names -/
theorem takes_len {W : WX} (tk : Takes X W) : Takes X fun c d _ H => ∀ σ : Slots, σ.length = X.N.length → W c d σ H := fun u s' ⟨a, B, sI, pins, σ, H, cls, d, e, I, nb, up, sky, na, os, ag, w⟩ =>
  tk u s' ⟨a, B, sI, pins, σ, H, cls, d, e, I, nb, up, sky, na, os, ag, w σ I.len⟩
theorem pe_never {X : Cx} {e : Expr} : PE X e (fun _ _ _ => False) := ⟨fun _ _ _ _ _ _ h => h.elim⟩
theorem pss_never {X : Cx} {l : List Stmt} : PSs X l (fun _ _ _ => False) := ⟨fun _ _ _ _ _ _ h => h.elim⟩
/-- a class whose fields are read -/
theorem xc_of (g : GoodS Φ x X CX k E) {c : String} {fs : List String} (hx : Φ.xs c = some fs) : ∃ C : Addr, X.mg (Str.ofString c) = some (.ref C) ∧ XfC X.K C ∧ (∀ f ∈ fs, PySem.W.findIn X.K (.ref C) (Str.ofString f) = some none) ∧ MxI.ClsT X.K C := by
  obtain ⟨C, fI, fd, hm, T, iC, tI, F, hb, hxf, hno, hct⟩ := (g.g.xok _ _ hx).ex
  exact ⟨C, hm, hxf, hno, hct⟩
/-- the names of a clause -/
def NmOk (x : SX) (nm : Option Str) (i : Option Nat) : Prop := (match nm, i with
      | none, none => true
      | some s, some i => decide (x.N[i]? = some s) && decide (x.sc.names.lookup s = some .local) && plainN s
      | _, _ => false) = true
theorem su_mk (g : GoodS Φ x X CX k E) {fs : List String} {nm : Option Str} {i : Option Nat} {C : Addr} (e6 : NmOk x nm i) (h : fs ≠ [] → XfC X.K C ∧ ∀ f ∈ fs, PySem.W.findIn X.K (.ref C) (Str.ofString f) = some none) : SuC x X fs nm (i.getD 0) C := by
  refine ⟨fun s hs => ?_, h⟩
  subst hs
  cases i with
  | none => cases e6
  | some i =>
    simp only [NmOk, Bool.and_eq_true, decide_eq_true_eq] at e6
    exact ⟨by rw [g.g.eN]; exact e6.1.1, by rw [g.g.eS]; exact e6.1.2, e6.2⟩
abbrev tIz (K : PySem.W.Frag) (C a : Addr) (cls : Value) (d : Option Addr) (i : Nat) : TE := tCB (rIsT K C a cls d) (tCons (tVar i) (tCons (tC (.ref C)) tNil))
theorem iz_pe (g : GoodS Φ x X CX k E) {nm : Option Str} {i : Option Nat} {c : String} {t : Expr} {C a : Addr} {oe : Obj} {cls : Value} {d : Option Addr} {pn : List (Addr × Obj)} (e6 : NmOk x nm i) (h : chkIz Φ x nm c t = true) (hm : X.mg (Str.ofString c) = some (.ref C)) (T : MxI.ClsT X.K C) (hz : Zc cls d oe) (hf : ∃ vs, oe.data = .fields vs) :
    PE (X.suite a ((a, oe) :: pn)) t (tIz X.K C a cls d (i.getD 0)) ∧ PT (X.suite a ((a, oe) :: pn)) t (tB (tIz X.K C a cls d (i.getD 0))) := by
  unfold chkIz at h
  split at h
  · rename_i s n p m p2 dd p3 q
    simp only [Bool.and_eq_true, decide_eq_true_eq] at h
    obtain ⟨⟨⟨⟨⟨⟨h1, h2⟩, h3⟩, h4⟩, h5⟩, h6⟩, _⟩ := h
    subst h1 h3 h4
    have hu := su_mk (fs := []) (C := C) g e6 (fun z => absurd rfl z)
    obtain ⟨n1, n2, n3⟩ := hu.nm _ rfl
    obtain ⟨g1, g2⟩ := isi_gl g.g rfl h2
    have pe : PE (X.suite a ((a, oe) :: pn)) (.Call (.Name (Str.ofString "isinstance") p) [.Name m p2, .Name (Str.ofString c) p3] [] q) (tIz X.K C a cls d (i.getD 0)) :=
      pe_callB (X := X.suite a ((a, oe) :: pn)) (call_isT T hz hf) g1 g2 (by decide +kernel) (pa_cons (pe_var (X := X.suite a ((a, oe) :: pn)) (i := i.getD 0) n1 (.inl n2) (plainN_of n3).1 (plainN_of n3).2) (pa_cons (pe_glob (X := X.suite a ((a, oe) :: pn)) (v := .ref C) (g.g.gl h5) hm rfl (plainN_of h6).1) pa_nil rfl) rfl) (by decide) (by decide) rfl rfl
    exact ⟨pe, pt_val pe⟩
  · cases h
theorem iz_out {X : Cx} {α Z : List Addr} {H : Hp} {y : Ex} {cv : Value} {d : Option Addr} {C a : Addr} {i : Nat} {σ : Slots} {Q : VK} (ex : ExR X.K Z X.mg α H y cv d) (hm : X.mg (Str.ofString y.cls) = some (.ref C)) (hs : σ[i]? = some (some (.ref a))) (h : Q (.bl true) H) : tIz X.K C a cv d i σ H Q := by
  obtain ⟨e1, dd, fs, ed, hd, _⟩ := ex
  rw [hm] at e1
  have ec := Option.some.inj e1
  refine ⟨.ref a, hs, C, dd, fs, rfl, ec.symm, ed, hd, ?_, h⟩
  unfold PySem.W.kitOne
  simp
theorem zb_ok (g : GoodS Φ x X CX k E) (h : Cz) {nm : Option Str} {b : Stmt} {bs : List Stmt} (e6 : NmOk x nm h.nm) (hb : chkZb Φ x h nm (b :: bs) = true) : ∃ ts : Addr → Value → Option Addr → TS,
    (∀ (a : Addr) (oe : Obj) (cls : Value) (d : Option Addr) (pn : List (Addr × Obj)), Zc cls d oe → (∃ vs, oe.data = .fields vs) → PSs (X.suite a ((a, oe) :: pn)) (b :: bs) (ts a cls d)) ∧
    ∀ (Z α : List Addr) (H : Hp) (S : Store) (y : Ex) (cv : Value) (d : Option Addr) (D : Ends) (σ' : Slots) (a : Addr) (m : M), SR X.K Z α H S → ExR X.K Z X.mg α H y cv d → xsub y.cls h.cls = true → h.ev y = some m → (nm.isSome = true → σ'[h.nm.getD 0]? = some (some (.ref a))) →
      Out X.K Z X.mg E (.ok (.ret m) S) α H (PF X.K Z D) → ts a cv d D σ' H := by
  unfold chkZb at hb
  split at hb
  · rename_i v rp his hbs
    cases hbs
    simp only [Bool.and_eq_true, Bool.or_eq_true] at hb
    obtain ⟨e5, e7⟩ := hb
    obtain ⟨fs, efs⟩ : ∃ fs, fs = (Φ.xs h.cls).getD [] := ⟨_, rfl⟩
    rw [← efs] at e7
    obtain ⟨C, hC⟩ : ∃ C : Addr, fs ≠ [] → X.mg (Str.ofString h.cls) = some (.ref C) ∧ XfC X.K C ∧ ∀ f ∈ fs, PySem.W.findIn X.K (.ref C) (Str.ofString f) = some none := by
      cases hx : Φ.xs h.cls with
      | none => exact ⟨0, fun z => absurd (by rw [efs, hx]; rfl) z⟩
      | some gs =>
        obtain ⟨C, hm, hxf, hno, _⟩ := xc_of g hx
        have e : fs = gs := by rw [efs, hx]; rfl
        subst e
        exact ⟨C, fun _ => ⟨hm, hxf, hno⟩⟩
    have hu := su_mk g e6 fun z => (hC z).2
    refine ⟨fun a cls d => tSeq (tRet (tSr C a cls d (h.nm.getD 0) h.r)) tNext, fun a oe cls d pn hz hf => pss_cons (ps_ret (sr_pe hu hz hf h.r v e7)) pss_nil, ?_⟩
    intro Z α H S y cv d D σ' a m s ex hsub em hσ ho
    rw [Cz.ev, his] at em
    show tSr C a cv d (h.nm.getD 0) h.r σ' H D.rt
    refine sr_out (fl := !fs.isEmpty && nm.isSome) (E := E) (mg := X.mg) (S := S) h.r (sr_okc h.r v e7) ⟨ex, fun hfl => ?_⟩ s em ho
    simp only [Bool.and_eq_true, Bool.not_eq_true', List.isEmpty_eq_false_iff] at hfl
    refine ⟨?_, hσ hfl.2⟩
    have hm := (hC hfl.1).1
    have hne : (h.cls == "ComeError") = false := by
      rcases e5 with e5 | e5
      · simpa using e5
      · rw [Option.isNone_iff_eq_none] at e5
        rw [e5] at hfl
        exact absurd hfl.2 Bool.false_ne_true
    unfold xsub at hsub
    rw [hne, Bool.or_false] at hsub
    have := ex.1
    rw [eq_of_beq hsub, hm] at this
    exact (Option.some.inj this).symm
  · rename_i c t v rp ip rest his hbs
    cases hbs
    simp only [Bool.and_eq_true] at hb
    obtain ⟨e5, e7⟩ := hb
    have hnm : nm.isSome = true ∧ (Φ.xs c).isSome = true := by
      unfold chkIz at e5
      split at e5
      · simp only [Bool.and_eq_true] at e5
        exact ⟨rfl, e5.2⟩
      · cases e5
    obtain ⟨fs, efs⟩ := Option.isSome_iff_exists.mp hnm.2
    rw [efs] at e7
    obtain ⟨C, hm, hxf, hno, hct⟩ := xc_of g efs
    have hu := su_mk (fs := fs) g e6 fun z => ⟨hxf, hno⟩
    refine ⟨fun a cls d => tSeq (tIfS (tB (tIz X.K C a cls d (h.nm.getD 0))) (tSeq (tRet (tSr C a cls d (h.nm.getD 0) h.r)) tNext) tNext) (fun _ _ _ => False), fun a oe cls d pn hz hf => pss_cons (ps_if (iz_pe g e6 e5 hm hct hz hf).2 (pss_cons (ps_ret (sr_pe hu hz hf h.r v e7)) pss_nil) pss_nil) pss_never, ?_⟩
    intro Z α H S y cv d D σ' a m s ex hsub em hσ ho
    rw [Cz.ev, his] at em
    by_cases hc : y.cls = c
    · simp only [hc, if_true] at em
      have hm' : X.mg (Str.ofString y.cls) = some (.ref C) := by rw [hc]; exact hm
      refine iz_out ex hm' (hσ hnm.1) ⟨true, rfl, ?_⟩
      show tSr C a cv d (h.nm.getD 0) h.r σ' H D.rt
      refine sr_out (fl := !fs.isEmpty && nm.isSome) (E := E) (mg := X.mg) (S := S) h.r (sr_okc h.r v e7) ⟨ex, fun hfl => ?_⟩ s em ho
      refine ⟨?_, hσ hnm.1⟩
      have := ex.1
      rw [hm'] at this
      exact (Option.some.inj this).symm
    · simp only [hc, if_false] at em
      cases em
  · rename_i c t v w ip rp his hbs
    cases hbs
    simp only [Bool.and_eq_true] at hb
    obtain ⟨e5, e7⟩ := hb
    have hnm : nm.isSome = true ∧ (Φ.xs c).isSome = true := by
      unfold chkIz at e5
      split at e5
      · simp only [Bool.and_eq_true] at e5
        exact ⟨rfl, e5.2⟩
      · cases e5
    obtain ⟨fs, efs⟩ := Option.isSome_iff_exists.mp hnm.2
    rw [efs] at e7
    obtain ⟨C, hm, hxf, hno, hct⟩ := xc_of g efs
    have hu := su_mk (fs := fs) g e6 fun z => ⟨hxf, hno⟩
    refine ⟨fun a cls d => tSeq (tRet (tIf (tB (tIz X.K C a cls d (h.nm.getD 0))) (tSr C a cls d (h.nm.getD 0) h.r) (fun _ _ _ => False))) tNext, fun a oe cls d pn hz hf => pss_cons (ps_ret (pe_ifExp (iz_pe g e6 e5 hm hct hz hf).2 (sr_pe hu hz hf h.r v e7) pe_never)) pss_nil, ?_⟩
    intro Z α H S y cv d D σ' a m s ex hsub em hσ ho
    rw [Cz.ev, his] at em
    by_cases hc : y.cls = c
    · simp only [hc, if_true] at em
      have hm' : X.mg (Str.ofString y.cls) = some (.ref C) := by rw [hc]; exact hm
      refine iz_out ex hm' (hσ hnm.1) ⟨true, rfl, ?_⟩
      show tSr C a cv d (h.nm.getD 0) h.r σ' H D.rt
      refine sr_out (fl := !fs.isEmpty && nm.isSome) (E := E) (mg := X.mg) (S := S) h.r (sr_okc h.r v e7) ⟨ex, fun hfl => ?_⟩ s em ho
      refine ⟨?_, hσ hnm.1⟩
      have := ex.1
      rw [hm'] at this
      exact (Option.some.inj this).symm
    · simp only [hc, if_false] at em
      cases em
  · cases hb
theorem zs_ok (g : GoodS Φ x X CX k E) : ∀ (hs : List Cz) (es : List ExceptHandler), chkZs Φ x hs es = true → ∃ l : List Mx.Cl, Mx.ClOk X es l ∧
    ∀ (Z α : List Addr) (H : Hp) (S : Store) (y : Ex) (cv : Value) (d : Option Addr) (D : Ends) (σ : Slots), SR X.K Z α H S → ExR X.K Z X.mg α H y cv d → (∃ fs, Φ.xs y.cls = some fs) → σ.length = X.N.length →
      Out X.K Z X.mg E (handle hs y S) α H (PF X.K Z D) → Mx.wCl X.K (fun c d _ H => E c d H) D l cv d σ H
  | [], [], _ => ⟨[], .nil, fun Z α H S y cv d D σ s ex _ _ h => h α H cv d (Tr.refl s) s ex⟩
  | [], _ :: _, h => by unfold chkZs at h; cases h
  | _ :: _, [], h => by unfold chkZs at h; cases h
  | q :: r, e :: es, h => by
    unfold chkZs at h
    simp only [Bool.and_eq_true] at h
    obtain ⟨h1, h2⟩ := h
    obtain ⟨l, ok, rest⟩ := zs_ok g r es h2
    unfold chkZ at h1
    split at h1
    · rename_i n np nm b bs hp
      simp only [Bool.and_eq_true, decide_eq_true_eq] at h1
      obtain ⟨⟨⟨⟨⟨e1, e2⟩, e3⟩, e4⟩, e6⟩, e7⟩ := h1
      subst e1
      have e6 : NmOk x nm q.nm := e6
      obtain ⟨dv, hdv, hex⟩ := g.g.xm q.cls e4
      obtain ⟨ts, hts, key⟩ := zb_ok g q e6 e7
      have hu := su_mk (fs := []) (C := 0) g e6 (fun z => absurd rfl z)
      refine ⟨⟨dv, q.nm, ts⟩ :: l, .cons (q := ⟨dv, q.nm, ts⟩) ⟨g.g.gl e2, (plainN_of e3).1, .inl hdv⟩ ?_ hts ok, ?_⟩
      · cases nm with
        | none =>
          cases hn : q.nm with
          | none => trivial
          | some i => rw [hn] at e6; cases e6
        | some s =>
          obtain ⟨n1, n2, _⟩ := hu.nm s rfl
          cases hn : q.nm with
          | none => rw [hn] at e6; cases e6
          | some i =>
            rw [hn] at n1
            exact ⟨g.g.nd, n1, n2⟩
      · intro Z α H S y cv d D σ s ex hy hlen ho
        obtain ⟨gs, hgs⟩ := hy
        obtain ⟨cv', hcv', hexm⟩ := hex _ _ hgs
        have ecv : cv' = cv := by
          have := ex.1
          rw [hcv'] at this
          exact Option.some.inj this
        subst ecv
        unfold handle at ho
        refine ⟨xsub y.cls q.cls, hexm, fun hb a ha => ?_, fun hb => ?_⟩
        · rw [if_pos hb] at ho
          obtain ⟨m, em, ho⟩ := ho.of
          unfold Mx.Cl.wish
          cases hn : q.nm with
          | none =>
            refine key Z α H S y cv' d D σ a m s ex hb em (fun hs => ?_) ho
            cases nm with
            | none => cases hs
            | some s' => rw [hn] at e6; cases e6
          | some i =>
            refine key Z α H S y cv' d (Mx.goneD i D) (σ.set i (some (.ref a))) a m s ex hb em (fun hs => ?_) ho
            cases nm with
            | none => cases hs
            | some s' =>
              obtain ⟨n1, _, _⟩ := hu.nm s' rfl
              rw [hn] at n1 ⊢
              have n1 : X.N[i]? = some s' := n1
              have hi := (List.getElem?_eq_some_iff.mp n1).1
              show (σ.set i (some (.ref a)))[i]? = _
              rw [List.getElem?_set_self (by rw [hlen]; exact hi)]
        · rw [hb, if_neg Bool.false_ne_true] at ho
          exact rest Z α H S y cv' d D σ s ex ⟨gs, hgs⟩ hlen ho
    · cases h1
theorem l_try {ks : List String} {b : Sms} {hs : List Cz} {p : List Stmt} {e : ExceptHandler} {es : List ExceptHandler} {pos : Pos} (g : GoodS Φ x X CX k E) (hb : ∀ (Y : Cx) (E' : XK), GoodS Φ x Y CX k E' → PSs Y p (rdSs Y Φ k E' b)) (hz : chkZs Φ x hs (e :: es) = true) (hk : (ks.all fun c => (Φ.xs c).isSome) = true) :
    PS X (.Try p (e :: es) [] [] pos) (rdS X Φ k E (.try_ ks b hs)) := by
  obtain ⟨l, ok, zs⟩ := zs_ok g hs (e :: es) hz
  refine PS.wk (Mx.ps_try_cl (tb := fun W => tF X.K X.mg (fun c d H => ∀ σ : Slots, σ.length = X.N.length → W c d σ H) (exs (evalFn Φ k) b)) g.stk g.frm g.tk (fun W pn xe tk own => ?_) ok) ?_
  · have tk' : Takes (X.tr pn xe) (fun c d _ H => ∀ σ : Slots, σ.length = X.N.length → W c d σ H) := takes_len tk
    refine hb (X.tr pn xe) (fun c d H => ∀ σ : Slots, σ.length = X.N.length → W c d σ H) ⟨?_, own, g.kind, g.tkP, tk', g.stk, g.frm⟩
    exact ⟨g.g.eN, g.g.eS, g.g.eF, g.g.nd, g.g.calm, g.g.room, g.g.gxr, g.g.cst, g.g.xok, g.g.xm, g.g.bl, g.g.fns, g.tkP _ _ rfl rfl tk', g.g.pass0⟩
  · rintro D σ H ⟨Z, α, S, γ, s, er, h⟩
    simp only [ex] at h
    refine ⟨Z, α, S, γ, s, er, ?_⟩
    cases hr : exs (evalFn Φ k) b γ S with
    | ok f S' => rw [hr] at h; exact h
    | bad => rw [hr] at h; exact False.elim h
    | exc y S' =>
      rw [hr, R.caught_exc] at h
      obtain ⟨hy, h⟩ := h.when
      have hx : ∃ fs, Φ.xs y.cls = some fs := Option.isSome_iff_exists.mp (List.all_eq_true.mp hk _ hy)
      exact fun α' H' cv d t s' ex σ' hl => zs Z α' H' S' y cv d D σ' s' ex hx hl (Out.tr t h)
end
end Mi

namespace Mi
open PySem PySem.Spec L2 PyProof.Rows
variable [Tabs]

section
variable {Φ : Tx} {x : SX} {X : Cx} {CX : CXT} {k : Nat} {E : XK}
theorem l_unp {l : List Nat} {e : C} {ts : List Expr} {v : Expr} {j : Nat} {tp pos : Pos} (g : GoodS Φ x X CX k E) (hn : chkNms x l ts = true) (he : PE X v (rdC X Φ k E e)) (hu : unpOk v = true) : PS X (.Assign [.Tuple ts j tp] v pos) (rdS X Φ k E (.unp l e)) := by
  refine PS.wk (ps_asg he (l_tg (tg := .tu l) g.g hn) sw_tup (ss_tup hu)) ?_
  rintro D σ H ⟨Z, α, S, γ, s, er, h⟩
  simp only [ex] at h
  refine ⟨Z, α, S, γ, s, er, h.bind.imp fun m S1 α1 H1 t1 s1 h v rv => ?_⟩
  obtain ⟨γ1, e1, h⟩ := h.of
  exact tg_out (er.tr s.muts t1) rv e1 fun σ1 er1 _ => h.now s1 _ er1
theorem l_seti {o i e : C} {a b v : Expr} {sp pos : Pos} (ho : PE X a (rdC X Φ k E o)) (hi : PE X b (rdC X Φ k E i)) (ob : odd b = false) (he : PE X v (rdC X Φ k E e)) (hv : swapsWithSole [.Subscript a b sp] v pos.line X.env = pure false) :
    PS X (.Assign [.Subscript a b sp] v pos) (rdS X Φ k E (.seti o i e)) := by
  have hb : ∀ v, assign (.Subscript a b sp) X.env v = (do
      let ov ← holding [v] (eval a X.env)
      let iv ← holding [v, ov] (eval b X.env)
      standAt sp
      holding [v, ov, iv] (setItem ov iv v)
      release [v, ov, iv] []) := by
    intro v
    cases b <;> first | rfl | exact absurd ob.symm Bool.false_ne_true
  refine PS.wk (ps_asg he (pg_sub ho hi (PSet.or set_list set_dic) hb) hv ss_sub (by rfl)) ?_
  rintro D σ H ⟨Z, α, S, γ, s, er, h⟩
  simp only [ex] at h
  refine ⟨Z, α, S, γ, s, er, h.bind.imp fun m S1 α1 H1 t1 s1 h v rv => ?_⟩
  have er1 := er.tr s.muts t1
  refine ⟨Z, α1, S1, γ, s1, er1, h.bind.imp fun n S2 α2 H2 t2 s2 h u ru => ?_⟩
  have er2 := er1.tr s1.muts t2
  refine ⟨Z, α2, S2, γ, s2, er2, h.bind.imp fun q S3 α3 H3 t3 s3 h w rw' => ?_⟩
  refine seti_out s3 (Rep.tr s2.muts t3 _ _ ru) rw' (Rep.tr s1.muts (t2.trans t3) _ _ rv) (h.bind.imp fun _ S4 α4 H4 t4 s4 h => ?_)
  exact h.now s4 _ ((er2.tr s2.muts t3).tr s3.muts t4)
theorem ss_swp {a b c d u v : Expr} {p q tp vp : Pos} {k k2 : Nat} {env : PySem.Env} : swappedStores [.Tuple [.Subscript a b p, .Subscript c d q] k tp] (.Tuple [u, v] k2 vp) env = pure none := by
  unfold swappedStores
  simp
theorem l_swp {o i p j a b : C} {eo ei ep ej ea eb : Expr} {k1 k2 : Nat} {p1 p2 tp vp pos : Pos} (g : GoodS Φ x X CX k E) (ho : PE X eo (rdC X Φ k E o)) (hi : PE X ei (rdC X Φ k E i)) (oi : odd ei = false) (hp : PE X ep (rdC X Φ k E p)) (hj : PE X ej (rdC X Φ k E j)) (oj : odd ej = false)
    (ha : PE X ea (rdC X Φ k E a)) (oa : odd ea = false) (hb : PE X eb (rdC X Φ k E b)) (ob : odd eb = false) :
    PS X (.Assign [.Tuple [.Subscript eo ei p1, .Subscript ep ej p2] k1 tp] (.Tuple [ea, eb] k2 vp) pos) (rdS X Φ k E (.swp o i p j a b)) := by
  have sub : ∀ (eo ei : Expr) (q : Pos), odd ei = false → ∀ v, assign (.Subscript eo ei q) X.env v = (do
      let ov ← holding [v] (eval eo X.env)
      let iv ← holding [v, ov] (eval ei X.env)
      standAt q
      holding [v, ov, iv] (setItem ov iv v)
      release [v, ov, iv] []) := by
    intro eo ei q hq v
    cases ei <;> first | rfl | exact absurd hq.symm Bool.false_ne_true
  have h2 : starEach [eb] X.env = [(false, eval eb X.env)] := odd_star ob [] X.env
  refine PS.wk (ps_asg (pe_tup (pa_cons ha (pa_cons hb pa_nil h2) (odd_star oa [eb] X.env))) (pg_tup (n := 2) g.g.calm (pgs_cons (pg_sub ho hi (PSet.or set_list set_dic) (sub eo ei p1 oi)) (pgs_cons (pg_sub hp hj (PSet.or set_list set_dic) (sub ep ej p2 oj)) pgs_nil)) (by rfl) (by rfl)) sw_tup ss_swp) ?_
  rintro D σ H ⟨Z, α, S, γ, s, er, h⟩
  simp only [ex] at h
  refine ⟨Z, α, S, γ, s, er, h.bind.imp fun m S1 α1 H1 t1 s1 h v rv => ?_⟩
  have er1 := er.tr s.muts t1
  refine ⟨Z, α1, S1, γ, s1, er1, h.bind.imp fun n S2 α2 H2 t2 s2 h u ru => ?_⟩
  refine ⟨by rw [sizeLine_eq]; show 2 ≤ _; decide, fun T hT => ?_⟩
  have er2 := er1.tr s1.muts t2
  have tT := Tr.new (o := .tup [v, u]) s2 hT
  have sT := s2.new (o := .tup [v, u]) hT
  have erT := er2.tr s2.muts tT
  have rv' := Rep.tr s1.muts (t2.trans tT) _ _ rv
  have ru' := Rep.tr s2.muts tT _ _ ru
  refine ⟨T, [v, u], rfl, .of upd_same, rfl, v, [u], rfl, Z, α2, S2, γ, sT, erT, (Out.tr tT h).bind.imp fun q S3 α3 H3 t3 s3 h w rw' => ?_⟩
  have er3 := erT.tr sT.muts t3
  refine ⟨Z, α3, S3, γ, s3, er3, h.bind.imp fun q4 S4 α4 H4 t4 s4 h w4 rw4 => ?_⟩
  have er4 := er3.tr s3.muts t4
  refine seti_out s4 (Rep.tr s3.muts t4 _ _ rw') rw4 (Rep.tr sT.muts (t3.trans t4) _ _ rv') (h.bind.imp fun _ S5 α5 H5 t5 s5 h => ?_)
  have er5 := er4.tr s4.muts t5
  refine ⟨u, [], rfl, Z, α5, S5, γ, s5, er5, h.bind.imp fun q6 S6 α6 H6 t6 s6 h w6 rw6 => ?_⟩
  have er6 := er5.tr s5.muts t6
  refine ⟨Z, α6, S6, γ, s6, er6, h.bind.imp fun q7 S7 α7 H7 t7 s7 h w7 rw7 => ?_⟩
  have er7 := er6.tr s6.muts t7
  refine seti_out s7 (Rep.tr s6.muts t7 _ _ rw6) rw7 (Rep.tr sT.muts ((((t3.trans t4).trans t5).trans t6).trans t7) _ _ ru') (h.bind.imp fun _ S8 α8 H8 t8 s8 h => ?_)
  exact ⟨rfl, h.now s8 _ (er7.tr s7.muts t8)⟩
theorem l_augi {op : Bop} {o i e : C} {a b v : Expr} {sp pos : Pos} (ho : PE X a (rdC X Φ k E o)) (hi : PE X b (rdC X Φ k E i)) (ob : odd b = false) (he : PE X v (rdC X Φ k E e)) :
    PS X (.AugAssign (.Subscript a b sp) op.op v pos) (rdS X Φ k E (.augi op o i e)) := by
  have hb : ∀ ov iv new, augStore b ov iv new = (do holding [new, ov, iv] (setItem ov iv new); release [new, ov, iv] []; pure .next) := by
    intro ov iv new
    cases b <;> first | rfl | exact absurd ob.symm Bool.false_ne_true
  refine PS.wk (ps_augS ho hi get_list he (ip_aug op) (PSet.or set_list set_dic) hb) ?_
  rintro D σ H ⟨Z, α, S, γ, s, er, h⟩
  simp only [ex] at h
  refine ⟨Z, α, S, γ, s, er, h.bind.imp fun m S1 α1 H1 t1 s1 h v rv => ?_⟩
  have er1 := er.tr s.muts t1
  refine ⟨Z, α1, S1, γ, s1, er1, h.bind.imp fun n S2 α2 H2 t2 s2 h u ru => ?_⟩
  have er2 := er1.tr s1.muts t2
  refine ixl_out s2 (Rep.tr s1.muts t2 _ _ rv) ru (h.bind.imp fun q S3 α3 H3 t3 s3 h w rw' => ?_)
  have er3 := er2.tr s2.muts t3
  refine ⟨Z, α3, S3, γ, s3, er3, h.bind.imp fun z S4 α4 H4 t4 s4 h y ry => ?_⟩
  have er4 := er3.tr s3.muts t4
  refine aug_out s4 (Rep.tr s3.muts t4 _ _ rw') ry (h.bind.imp fun z5 S5 α5 H5 t5 s5 h y5 ry5 => ?_)
  have er5 := er4.tr s4.muts t5
  have t25 := ((t3.trans t4).trans t5)
  refine seti_out s5 (Rep.tr s1.muts (t2.trans t25) _ _ rv) (Rep.tr s2.muts t25 _ _ ru) ry5 (h.bind.imp fun _ S6 α6 H6 t6 s6 h => ?_)
  exact h.now s6 _ (er5.tr s5.muts t6)
theorem l_aug {op : Bop} {i : Nat} {e : C} {n : Str} {v : Expr} {p pos : Pos} (g : GoodS Φ x X CX k E) (hn : chkNm x i (.Name n p) = true) (he : PE X v (rdC X Φ k E e)) : PS X (.AugAssign (.Name n p) op.op v pos) (rdS X Φ k E (.aug op i e)) := by
  obtain ⟨h1, h2, h3⟩ := nm_of g.g hn
  refine PS.wk (ps_aug g.g.nd h1 h2 he (ip_aug op) h3) ?_
  rintro D σ H ⟨Z, α, S, γ, s, er, h⟩
  simp only [ex] at h
  split at h
  · rename_i z ez
    obtain ⟨y, ey, ry⟩ := er.get i z ez
    refine ⟨y, ey, Z, α, S, γ, s, er, h.bind.imp fun m S1 α1 H1 t1 s1 h v rv => ?_⟩
    have er1 := er.tr s.muts t1
    refine aug_out s1 (Rep.tr s.muts t1 _ _ ry) rv (h.bind.imp fun r S2 α2 H2 t2 s2 h u ru => ?_)
    exact h.now s2 _ ((er1.tr s1.muts t2).set ru)
  · exact False.elim h
theorem l_exp {e : C} {v : Expr} {pos : Pos} (he : PE X v (rdC X Φ k E e)) (hs : swapsWith v none pos.line X.env = pure false) : PS X (.Expr v pos) (rdS X Φ k E (.exp e)) := by
  refine PS.wk (ps_expr he hs) ?_
  rintro D σ H ⟨Z, α, S, γ, s, er, h⟩
  simp only [ex] at h
  exact ⟨Z, α, S, γ, s, er, h.bind.imp fun m S1 α1 H1 t1 s1 h v rv => h.now s1 _ (er.tr s.muts t1)⟩
theorem l_ret {e : C} {v : Expr} {pos : Pos} (he : PE X v (rdC X Φ k E e)) : PS X (.Return (some v) pos) (rdS X Φ k E (.ret e)) := by
  refine PS.wk (ps_ret he) ?_
  rintro D σ H ⟨Z, α, S, γ, s, er, h⟩
  simp only [ex] at h
  exact ⟨Z, α, S, γ, s, er, h.bind.imp fun m S1 α1 H1 t1 s1 h v rv => h.now s1 v rv⟩
theorem l_retN {pos : Pos} : PS X (.Return none pos) (rdS X Φ k E .retN) := by
  refine PS.wk ps_retN ?_
  rintro D σ H ⟨Z, α, S, γ, s, er, h⟩
  simp only [ex] at h
  exact h.now s .non (by simp only [Rep])
theorem l_brk {pos : Pos} : PS X (.Break pos) (rdS X Φ k E .brk) := by
  refine PS.wk ps_break ?_
  rintro D σ H ⟨Z, α, S, γ, s, er, h⟩
  simp only [ex] at h
  exact h.now s σ er
theorem l_cnt {pos : Pos} : PS X (.Continue pos) (rdS X Φ k E .cnt) := by
  refine PS.wk ps_continue ?_
  rintro D σ H ⟨Z, α, S, γ, s, er, h⟩
  simp only [ex] at h
  exact h.now s σ er
theorem l_pass {pos : Pos} : PS X (.Pass pos) (rdS X Φ k E .pass) := by
  refine PS.wk ps_pass ?_
  rintro D σ H ⟨Z, α, S, γ, s, er, h⟩
  simp only [ex] at h
  exact h.now s σ er
theorem l_if {t : T} {a b : Sms} {c : Expr} {p q : List Stmt} {pos : Pos} (ht : PT X c (rdT X Φ k E t)) (ha : PSs X p (rdSs X Φ k E a)) (hb : PSs X q (rdSs X Φ k E b)) : PS X (.If c p q pos) (rdS X Φ k E (.ife t a b)) := by
  refine PS.wk (ps_if ht ha hb) ?_
  rintro D σ H ⟨Z, α, S, γ, s, er, h⟩
  simp only [ex] at h
  refine ⟨Z, α, S, γ, s, er, h.bind.imp fun c S1 α1 H1 t1 s1 h => ?_⟩
  cases c with
  | true => exact ⟨Z, α1, S1, γ, s1, er.tr s.muts t1, h⟩
  | false => exact ⟨Z, α1, S1, γ, s1, er.tr s.muts t1, h⟩
theorem l_seq_nil : PSs X [] (rdSs X Φ k E .nil) := by
  refine PSs.wk pss_nil ?_
  rintro D σ H ⟨Z, α, S, γ, s, er, h⟩
  simp only [exs] at h
  exact h.now s σ er
theorem l_seq {a : Sm} {r : Sms} {st : Stmt} {rest : List Stmt} (ha : PS X st (rdS X Φ k E a)) (hr : PSs X rest (rdSs X Φ k E r)) : PSs X (st :: rest) (rdSs X Φ k E (.cons a r)) := by
  refine PSs.wk (pss_cons ha hr) ?_
  rintro D σ H ⟨Z, α, S, γ, s, er, h⟩
  simp only [exs] at h
  refine ⟨Z, α, S, γ, s, er, h.bind.imp fun f S1 α1 H1 t1 s1 h => ?_⟩
  cases f with
  | nx γ1 => exact fun σ1 er1 => ⟨Z, α1, S1, γ1, s1, er1, h⟩
  | ret m => exact Out.now (mg := X.mg) (E := E) s1 (show Out X.K Z X.mg E (.ok (.ret m) S1) α1 H1 (PF X.K Z D) from h)
  | brk γ1 => exact Out.now (mg := X.mg) (E := E) s1 (show Out X.K Z X.mg E (.ok (.brk γ1) S1) α1 H1 (PF X.K Z D) from h)
  | cnt γ1 => exact Out.now (mg := X.mg) (E := E) s1 (show Out X.K Z X.mg E (.ok (.cnt γ1) S1) α1 H1 (PF X.K Z D) from h)
theorem l_while {t : T} {b : Sms} {c : Expr} {p : List Stmt} {pos : Pos} (own : PassesOwn (model X.prog X.w) X.A X.env X.xe) (ht : PT X c (rdT X Φ k E t)) (hb : PSs X p (rdSs X Φ k E b)) : PS X (.While c p [] pos) (rdS X Φ k E (.while_ t b)) := by
  refine PS.wk (ps_while own ht hb) ?_
  rintro D σ H ⟨Z, α, S, γ, s, er, h⟩
  simp only [ex] at h
  refine ⟨fun m σ H => ∃ Z α S γ, SR X.K Z α H S ∧ ER X.K Z α H γ σ ∧ Out X.K Z X.mg E (whileLoop (evT (evalFn Φ k) t) (fun γ S => exs (evalFn Φ k) b γ S) m γ S) α H (PF X.K Z D), ⟨lim, Z, α, S, γ, s, er, h⟩, ?_⟩
  rintro m σ H ⟨Z, α, S, γ, s, er, h⟩
  cases m with
  | zero => exact False.elim h
  | succ m =>
    unfold whileLoop at h
    refine ⟨Z, α, S, γ, s, er, h.bind.imp fun c S1 α1 H1 t1 s1 h => ?_⟩
    have er1 := er.tr s.muts t1
    cases c with
    | false => exact Out.now (mg := X.mg) (E := E) s1 (show Out X.K Z X.mg E (.ok (.nx γ) S1) α1 H1 (PF X.K Z D) from h) σ er1
    | true =>
      refine ⟨fun σ H => ∃ Z α S γ, SR X.K Z α H S ∧ ER X.K Z α H γ σ ∧ Out X.K Z X.mg E (whileLoop (evT (evalFn Φ k) t) (fun γ S => exs (evalFn Φ k) b γ S) m γ S) α H (PF X.K Z D), fun σ' H' w => ⟨m, Nat.lt_succ_self m, w⟩, ?_⟩
      have h' : Out X.K Z X.mg E ((exs (evalFn Φ k) b γ S1).bind _) α1 H1 (PF X.K Z D) := h
      refine ⟨Z, α1, S1, γ, s1, er1, h'.bind.imp fun f S2 α2 H2 t2 s2 h => ?_⟩
      cases f with
      | nx γ2 => exact fun σ2 er2 => ⟨Z, α2, S2, γ2, s2, er2, h⟩
      | cnt γ2 => exact fun σ2 er2 => ⟨Z, α2, S2, γ2, s2, er2, h⟩
      | brk γ2 => exact Out.now (mg := X.mg) (E := E) s2 (show Out X.K Z X.mg E (.ok (.nx γ2) S2) α2 H2 (PF X.K Z D) from h)
      | ret v => exact Out.now (mg := X.mg) (E := E) s2 (show Out X.K Z X.mg E (.ok (.ret v) S2) α2 H2 (PF X.K Z D) from h)
theorem for_ok {s : Src} {f : M → Env → Store → R F} {l : List M} {γ : Env} {S : Store} {K : PySem.W.Frag} {mg : Str → Option Value} {Z α : List Addr} {H : Hp} {P : F → Store → List Addr → Hp → Prop} (h : Out K Z mg E (forLoop s f l γ S) α H P) : s.ok S := by
  by_cases hok : s.ok S
  · exact hok
  · cases l with
    | nil =>
      unfold forLoop at h
      rw [show R.when (s.ok S) _ = .bad from if_neg hok] at h
      exact False.elim h
    | cons m l =>
      unfold forLoop at h
      rw [show R.when (s.ok S) _ = .bad from if_neg hok] at h
      exact False.elim h
theorem l_for {tg : Tg} {it : It'} {b : Sms} {t i : Expr} {p : List Stmt} {pos : Pos} (g : GoodS Φ x X CX k E) (hg : PG X t (rdG X.K tg)) (hi : PI X t i (rdI X Φ k E it)) (ho : ∀ z, foldedSetIterable i X.env z = pure z) (hb : PSs X p (rdSs X Φ k E b)) :
    PS X (.For t i p [] pos) (rdS X Φ k E (.for_ tg it b)) := by
  refine PS.wk (ps_for g.own g.g.calm hi hg hb ho) ?_
  rintro D σ H ⟨Z, α, S, γ, s, er, h⟩
  simp only [ex] at h
  refine ⟨Z, α, S, γ, s, er, h.bind.imp fun src S1 α1 H1 t1 s1 h J WM => ?_⟩
  obtain ⟨G, Y, w, hG, hY⟩ := WM.ex
  refine for_it w (fun i σ H' => ∃ α' S' γ', Tr α1 H1 α' H' ∧ SR X.K Z α' H' S' ∧ ER X.K Z α' H' γ' σ ∧ Out X.K Z X.mg E (forLoop src (fun m γ S => .of (bindT tg m γ) fun γ1 => exs (evalFn Φ k) b γ1 S) (src.items.drop i) γ' S') α' H' (PF X.K Z D)) ?_ ?_ ?_ ?_
  · exact ⟨α1, S1, γ, Tr.refl s1, s1, er.tr s.muts t1, by simpa using h⟩
  · rintro i σ' H' _ ⟨α', S', γ', t, s', e', o⟩
    exact hG Z α' H' S' ZT.refl t.q s' (for_ok o)
  · rintro i y σ' H' H'' hi ⟨α', S', γ', t, s', e', o⟩ hy
    have hd : src.items.drop i = src.items[i] :: src.items.drop (i + 1) := List.drop_eq_getElem_cons hi
    rw [hd] at o
    have hok := for_ok o
    unfold forLoop at o
    rw [R.when_true hok] at o
    obtain ⟨ty, s'', ry⟩ := hY Z α' H' S' i src.items[i] y H'' ZT.refl t.q s' hok (by simp [hi]) hy
    have tt := t.trans ty
    have o := Out.tr ty o
    cases hbt : bindT tg src.items[i] γ' with
    | none => rw [hbt] at o; exact False.elim o
    | some γ1 =>
      rw [hbt, R.of_some] at o
      refine tg_out (e'.tr s'.muts ty) ry hbt fun σ1 er1 _ => ?_
      refine ⟨Z, α', S', γ1, s'', er1, o.bind.imp fun f S2 α2 H2 t2 s2 h => ?_⟩
      cases f with
      | nx γ2 => exact fun σ2 er2 => ⟨α2, S2, γ2, tt.trans t2, s2, er2, h⟩
      | cnt γ2 => exact fun σ2 er2 => ⟨α2, S2, γ2, tt.trans t2, s2, er2, h⟩
      | brk γ2 => exact Out.now (mg := X.mg) (E := E) s2 (show Out X.K Z X.mg E (.ok (.nx γ2) S2) α2 H2 (PF X.K Z D) from h)
      | ret v => exact Out.now (mg := X.mg) (E := E) s2 (show Out X.K Z X.mg E (.ok (.ret v) S2) α2 H2 (PF X.K Z D) from h)
  · rintro σ' H' ⟨α', S', γ', t, s', e', o⟩
    rw [List.drop_length] at o
    have hok := for_ok o
    unfold forLoop at o
    rw [R.when_true hok] at o
    exact o.now s' σ' e'

mutual
theorem soS : ∀ (c : Sm) {X : Cx} {E : XK} {st : Stmt}, GoodS Φ x X CX k E → chkS Φ c x st = true → PS X st (rdS X Φ k E c)
  | .set i e, X, E, st, g, h => by
    simp only [chkS] at h
    split at h
    · simp only [Bool.and_eq_true] at h
      exact l_set g h.1 h.2
    · cases h
  | .unp l e, X, E, st, g, h => by
    simp only [chkS] at h
    split at h
    · simp only [Bool.and_eq_true] at h
      exact l_unp g h.1.1 (soC e g.g h.1.2) h.2
    · cases h
  | .par l es, X, E, st, g, h => by
    simp only [chkS] at h
    split at h
    · simp only [Bool.and_eq_true] at h
      exact l_par g h.1.1 h.1.2 h.2
    · cases h
  | .seti o i e, X, E, st, g, h => by
    simp only [chkS] at h
    split at h
    · simp only [Bool.and_eq_true] at h
      exact l_seti (soC o g.g h.1.1) (soC i g.g h.1.2) (chk_odd h.1.2) (soC e g.g h.2) (sw_sub h.2)
    · cases h
  | .augi op o i e, X, E, st, g, h => by
    simp only [chkS] at h
    split at h
    · simp only [Bool.and_eq_true, decide_eq_true_eq] at h
      obtain ⟨⟨⟨rfl, h1⟩, h2⟩, h3⟩ := h
      exact l_augi (soC o g.g h1) (soC i g.g h2) (chk_odd h2) (soC e g.g h3)
    · cases h
  | .aug op i e, X, E, st, g, h => by
    simp only [chkS] at h
    split at h
    · simp only [Bool.and_eq_true, decide_eq_true_eq] at h
      obtain ⟨⟨rfl, h1⟩, h2⟩ := h
      exact l_aug g h1 (soC e g.g h2)
    · cases h
  | .swp o i p j a b, X, E, st, g, h => by
    simp only [chkS] at h
    split at h
    · simp only [Bool.and_eq_true] at h
      obtain ⟨⟨⟨⟨⟨h1, h2⟩, h3⟩, h4⟩, h5⟩, h6⟩ := h
      exact l_swp g (soC o g.g h1) (soC i g.g h2) (chk_odd h2) (soC p g.g h3) (soC j g.g h4) (chk_odd h4) (soC a g.g h5) (chk_odd h5) (soC b g.g h6) (chk_odd h6)
    · cases h
  | .exp e, X, E, st, g, h => by
    simp only [chkS] at h
    split at h
    · simp only [Bool.and_eq_true, Bool.not_eq_true'] at h
      exact l_exp (soC e g.g h.2) (sw_no h.2 h.1)
    · cases h
  | .ret e, X, E, st, g, h => by
    simp only [chkS] at h
    split at h
    · exact l_ret (soC e g.g h)
    · cases h
  | .retN, X, E, st, g, h => by
    simp only [chkS] at h
    split at h
    · exact l_retN
    · cases h
  | .ife t a b, X, E, st, g, h => by
    simp only [chkS] at h
    split at h
    · simp only [Bool.and_eq_true] at h
      exact l_if (soT t g.g h.1.1).1 (soSs a g h.1.2) (soSs b g h.2)
    · cases h
  | .for_ tg it b, X, E, st, g, h => by
    simp only [chkS] at h
    split at h
    · simp only [Bool.and_eq_true] at h
      exact l_for g (l_tg g.g h.1.1) (soI it g.g h.1.2) (fun z => odd_fold (chkI_odd h.1.2) _ z) (soSs b g h.2)
    · cases h
  | .while_ t b, X, E, st, g, h => by
    simp only [chkS] at h
    split at h
    · simp only [Bool.and_eq_true] at h
      exact l_while g.own (soT t g.g h.1).1 (soSs b g h.2)
    · cases h
  | .brk, X, E, st, g, h => by
    simp only [chkS] at h
    split at h
    · exact l_brk
    · cases h
  | .cnt, X, E, st, g, h => by
    simp only [chkS] at h
    split at h
    · exact l_cnt
    · cases h
  | .pass, X, E, st, g, h => by
    simp only [chkS] at h
    split at h
    · exact l_pass
    · cases h
  | .raise c fs es, X, E, st, g, h => by
    simp only [chkS] at h
    split at h
    · simp only [Bool.and_eq_true, decide_eq_true_eq] at h
      obtain ⟨⟨⟨⟨h1, h2⟩, h3⟩, h4⟩, h5⟩ := h
      exact l_raise g h1 h2 h3 h4 (soCs es g.g h5) (chks_odd h5)
    · cases h
  | .try_ ks b hs, X, E, st, g, h => by
    simp only [chkS] at h
    split at h
    · simp only [Bool.and_eq_true] at h
      exact l_try g (fun Y E' g' => soSs b g' h.1.1) h.1.2 h.2
    · cases h
termination_by structural c => c
theorem soSs : ∀ (c : Sms) {X : Cx} {E : XK} {l : List Stmt}, GoodS Φ x X CX k E → chkSs Φ c x l = true → PSs X l (rdSs X Φ k E c)
  | .nil, X, E, l, g, h => by
    cases l with
    | nil => exact l_seq_nil
    | cons s ss => simp [chkSs] at h
  | .cons a r, X, E, l, g, h => by
    cases l with
    | nil => simp [chkSs] at h
    | cons s ss =>
      simp only [chkSs, Bool.and_eq_true] at h
      exact l_seq (soS a g h.1) (soSs r g h.2)
termination_by structural c => c
end
end
end Mi

namespace Mi
open PySem PySem.Spec L2 PyProof.Rows

/-! ### the defs of a text -/
structure Tab where
  st : Stmt
  N : List Str
  d : Fn
  gx : Bool := false
/-- a text as it stands: its defs, its constants, its exceptions -/
structure Bk where
  tb : String → Option Tab
  cs : String → Option Kon
  xs : String → Option (List String)
  ce : Bool
instance : CoeFun Bk (fun _ => String → Option Tab) := ⟨Bk.tb⟩
def tabF (Ψ : Bk) : Tx := ⟨fun f => (Ψ f).map (·.d), Ψ.cs, Ψ.xs, Ψ.ce⟩
def Fn.pn (d : Fn) : List Str := d.ps.map Str.ofString
def chkSc (N P : List Str) (sc : Scope) : Bool :=
  decide (sc.kind = .function) && decide (sc.isCoroutine = false) && decide (sc.isGenerator = false) && decide N.Nodup && decide (N.take P.length = P) &&
    (P.all fun x => decide (sc.names.lookup x = some .local) || decide (sc.names.lookup x = some .cell)) && (sc.names.all fun y => decide (y.2 ≠ .free))
def chkTab (Φ : Tx) (t : Tab) : Bool :=
  chkSc t.N t.d.pn (defScope t.st) && decide (t.N.length = t.d.ns) && decide (t.d.ps.length ≤ t.d.ns) && chkSs Φ t.d.body ⟨t.N, defScope t.st, fun _ => true, t.gx⟩ (defBody t.st)
theorem sc_of {N P : List Str} {sc : Scope} (h : chkSc N P sc = true) : FnScope N P sc := by
  unfold chkSc at h
  simp only [Bool.and_eq_true, decide_eq_true_eq, List.all_eq_true, Bool.or_eq_true] at h
  obtain ⟨⟨⟨⟨⟨⟨h1, h2⟩, h3⟩, h4⟩, h5⟩, h6⟩, h7⟩ := h
  exact ⟨h1, h2, h3, h4, h5, h6, h7⟩
/-- a def stands in what is written -/
structure At (K : PySem.W.Frag) (mg : Str → Option Value) (f : String) (t : Tab) (a : Addr) (fd : FuncData) : Prop where
  fn : L2.Fun K (Str.ofString f) (Str.ofString f) t.st a fd
  m : mg (Str.ofString f) = some (.ref a)
  b : Binds K fd t.d.pn []
  kb : ∀ n qs, (n, qs) ∈ t.d.kw → KBinds K fd t.d.pn ((ksOf t.d n qs).map Str.ofString) (placeN n qs) (placeN n qs)
theorem place_vals (qs : List Nat) : ∀ {xs zs : List V} {us ws : List Value}, Vals xs us → Vals zs ws → Vals (place qs xs zs) (place qs us ws) := by
  intro xs zs us ws r r'
  unfold place
  refine r.append ?_
  induction qs with
  | nil => exact .nil
  | cons q qs ih =>
    rw [List.filterMap_cons, List.filterMap_cons]
    cases e : zs[q]? with
    | none =>
      rw [r'.none_of e]
      exact ih
    | some z =>
      obtain ⟨w, e1, e2⟩ := r'.get e
      rw [e1]
      exact .cons e2 ih
theorem kb_mk {K : PySem.W.Frag} {fd : FuncData} {ps ks : List Str} {n : Nat} {qs : List Nat} (hp : ps ≠ [])
    (h : ∀ us ws : List Value, us.length = n → ws.length = qs.length → bindArgs fd ⟨us, ks.zip ws⟩ = pure (ps.zip (place qs us ws))) : KBinds K fd ps ks (placeN n qs) (placeN n qs) := by
  refine ⟨fun s us ws KX hl => ?_, fun {vs us zs ws} r r' => ?_⟩
  · by_cases c : us.length = n ∧ ws.length = qs.length
    · have e : placeN n qs us ws = place qs us ws := if_pos c
      rw [e]
      exact .of_eq (h us ws c.1 c.2)
    · have e : placeN n qs us ws = [] := if_neg c
      rw [e] at hl
      exact absurd (List.length_eq_zero_iff.mp hl.symm) hp
  · unfold placeN
    rw [r.length, r'.length]
    split
    · exact place_vals qs r r'
    · exact .nil
variable [Tabs]
section
variable {P : Program} {w : World} {K : PySem.W.Frag} {mg : Str → Option Value} {base : Heap} {Ψ : Bk}
theorem er_start {Z α : List Addr} {H : Hp} {N : List Str} {ms : List M} {vs : List V} (r : RepL K Z α H ms vs) : ER K Z α H (ms.map some ++ List.replicate (N.length - ms.length) none) (L2.start N vs) := by
  unfold L2.start
  have hl := r.length
  refine ⟨by simp [hl], fun i m h => ?_⟩
  by_cases hi : i < ms.length
  · rw [List.getElem?_append_left (by simpa using hi), List.getElem?_map] at h
    obtain ⟨m', h1, h2⟩ := Option.map_eq_some_iff.mp h
    cases h2
    obtain ⟨v, e1, e2⟩ := r.get h1
    refine ⟨v, ?_, e2⟩
    rw [List.getElem?_append_left (by simp; omega), List.getElem?_map, e1]
    rfl
  · rw [List.getElem?_append_right (by simp; omega)] at h
    have := List.mem_of_getElem? h
    have := (List.mem_replicate.mp this).2
    cases this
omit [Tabs] in
/-- what stands of the constants and the exceptions -/
structure Gd (P : Program) (w : World) (K : PySem.W.Frag) (mg : Str → Option Value) (base : Heap) (Ψ : Bk) : Prop where
  cst : ∀ s i, Ψ.cs s = some i → ∃ u, mg (Str.ofString s) = some u ∧ RelV i.v u
  xok : ∀ c fs, Ψ.xs c = some fs → XOk P w K mg base (L2.CX P w) c fs
  xm : ∀ d, (tabF Ψ).hn d = true → ∃ dv, mg (Str.ofString d) = some dv ∧ ∀ c fs, Ψ.xs c = some fs → ∃ cv, mg (Str.ofString c) = some cv ∧ PySem.W.exmOne K cv dv = some (xsub c d)
/-- the tables of the defs with generator expressions -/
def TbOk (K : PySem.W.Frag) (mg : Str → Option Value) (base : Heap) (Ψ : Bk) : Prop := ∀ f t a fd, Ψ f = some t → At K mg f t a fd → t.gx = true → ∃ c P, fd.code = .ref c ∧ GxR.TabB base mg c P ∧ P ∈ Tabs.T
theorem fns_ok (gd : Gd P w K mg base Ψ) (tb : TbOk K mg base Ψ) (hc : ∀ f t, Ψ f = some t → chkTab (tabF Ψ) t = true) (ha : ∀ f t, Ψ f = some t → ∃ a fd, At K mg f t a fd) (hb : ∀ n ∈ bnames, mg (Str.ofString n) = none) :
    ∀ (k : Nat) (f : String) (t : Tab) (a : Addr) (fd : FuncData), Ψ f = some t → At K mg f t a fd → FnOk P w K mg base (L2.CX P w) (2 * k + 2) a fd t.d.pn (spM K mg t.d.ps.length (evalFn (tabF Ψ) k f))
  | 0, f, t, a, fd, hf, A => by
    have len : ∀ vs H Q E, spM K mg t.d.ps.length (evalFn (tabF Ψ) 0 f) vs H Q E → vs.length = t.d.pn.length := fun vs H Q E h => by rw [h.1]; simp [Fn.pn]
    refine ⟨len, fun A outer s H args us vs Q E hr e0 hb r h => ?_⟩
    obtain ⟨_, Z, α, S, ms, s, r, h⟩ := h
    exact False.elim (show False from h)
  | k + 1, f, t, a, fd, hf, A => by
    have ck := hc f t hf
    unfold chkTab at ck
    simp only [Bool.and_eq_true, decide_eq_true_eq] at ck
    obtain ⟨⟨⟨c1, c2⟩, c3⟩, c4⟩ := ck
    have S := sc_of c1
    have len : ∀ vs H Q E, spM K mg t.d.ps.length (evalFn (tabF Ψ) (k + 1) f) vs H Q E → vs.length = t.d.pn.length := fun vs H Q E h => by rw [h.1]; simp [Fn.pn]
    have tbk := tb f t a fd hf A
    obtain ⟨oc, od, kV, doc, pm, an, cdv, ct, osl, efd, lk, hcd⟩ := A.fn.ex
    subst efd
    refine fn_of (k := 2 * k + 3) lk hcd S len fun A' outer s H vs Q E hr h => ?_
    have g : GoodS (tabF Ψ) ⟨t.N, defScope t.st, fun _ => true, t.gx⟩ (cxOf (L2.CX P w) P w K mg base t.N (Str.ofString f) (defScope t.st) a cdv A' outer s H E) (L2.CX P w) k E := by
      have tk : Takes (cxOf (L2.CX P w) P w K mg base t.N (Str.ofString f) (defScope t.st) a cdv A' outer s H E) (fun c d _ H => E c d H) := takes_of rfl rfl rfl rfl
      refine ⟨⟨rfl, rfl, fun _ => rfl, S.nd, rfl, hr.mono (by omega), fun hx => ⟨hr, tbk hx⟩, gd.cst, gd.xok, gd.xm, hb, fun f' d' e => ?_, passes_call tk fun _ _ _ _ h => h, fun Y e1 e2 => ?_⟩, passes_of rfl, S.kind, fun Y E' e1 e2 tk => ?_, tk, rfl, rfl⟩
      rotate_left
      · intro pins σ H s e s' I c
        obtain ⟨_, _, _, _, _, _, _, _, _, _, _, _, z⟩ := c
        exact z.elim
      · have e1 : Y.prog = P := e1
        have e2 : Y.w = w := e2
        rw [← e1, ← e2]
        exact passes_call tk fun _ _ _ _ h => h
      obtain ⟨t', e1, rfl⟩ := Option.map_eq_some_iff.mp e
      obtain ⟨a', fd', A2⟩ := ha f' t' e1
      exact ⟨a', fd', A2.m, A2.fn.kp, fns_ok gd tb hc ha hb k f' t' a' fd' e1 A2, A2.b, A2.kb⟩
    refine ⟨_, soSs t.d.body g c4, ?_⟩
    obtain ⟨hl, Z, α, S', ms, sr, r, h⟩ := h
    have hΦ : tabF Ψ f = some t.d := by show Option.map (·.d) (Ψ.tb f) = _; rw [hf]; rfl
    simp only [evalFn, hΦ] at h
    obtain ⟨e, h⟩ := h.when
    refine ⟨Z, α, S', ms.map some ++ List.replicate (t.d.ns - t.d.ps.length) none, sr, ?_, h.bind.imp fun fl S1 α1 H1 t1 s1 h => ?_⟩
    · have := er_start (N := t.N) r
      rw [c2, e] at this
      exact this
    · cases fl with
      | nx γ => exact fun σ _ => Out.now (mg := mg) (E := E) s1 (show Out K Z mg E (.ok .non S1) α1 H1 (PM K Z Q) from h) .non (by simp only [Rep])
      | ret m => exact Out.now (mg := mg) (E := E) s1 (show Out K Z mg E (.ok m S1) α1 H1 (PM K Z Q) from h)
      | brk γ => exact False.elim h
      | cnt γ => exact False.elim h
/-- the law's promise -/
def spLaw (n : Nat) (K : PySem.W.Frag) : Sp := fun vs H Q _ => ∃ (a : Addr) (ns : List Int), vs = [.ref a] ∧ ns.length ≤ n ∧ (∀ a ∈ Tabs.T, H a = some (.tbl #[])) ∧ SqL K H a (ns.map V.int) ∧ ∀ H', Q (.bl true) H'
theorem law_ok (gd : Gd P w K mg base Ψ) (tb : TbOk K mg base Ψ) {k n : Nat} {t : Tab} {a : Addr} {fd : FuncData} (hc : ∀ f t, Ψ f = some t → chkTab (tabF Ψ) t = true) (ha : ∀ f t, Ψ f = some t → ∃ a fd, At K mg f t a fd) (hb : ∀ n ∈ bnames, mg (Str.ofString n) = none)
    (hf : Ψ "law" = some t) (A : At K mg "law" t a fd) (h1 : t.d.ps = ["script"]) (plain : ∀ ns : List Int, ns.length ≤ n → ∃ S, evalFn (tabF Ψ) k "law" [.scr ns] [] = .ok (.bl true) S) :
    FnOk P w K mg base (L2.CX P w) (2 * k + 2) a fd [Str.ofString "script"] (spLaw n K) := by
  have F := fns_ok gd tb hc ha hb k "law" t a fd hf A
  have e : t.d.pn = [Str.ofString "script"] := by unfold Fn.pn; rw [h1]; rfl
  rw [e, h1] at F
  refine F.imp fun vs H Q E h => ?_
  obtain ⟨a, ns, rfl, hn, hT, hS, q⟩ := h
  obtain ⟨S, e⟩ := plain ns hn
  refine ⟨rfl, [], [], [], [.scr ns], ⟨List.nodup_nil, rfl, fun _ _ h => (nomatch h), fun a h => (nomatch h), fun a ha => ⟨#[], hT a ha, trivial⟩⟩, ?_, ?_⟩
  · simp only [RepL, Rep]
    refine ⟨.ref a, [], rfl, ⟨a, rfl, ?_⟩, rfl⟩
    rcases hS with (h | ⟨o, h⟩) | h
    · exact .inr ⟨h, by simp, by simp⟩
    · exact .inl (.inl ⟨o, h⟩)
    · exact .inl (.inr (.inr h))
  · rw [e]
    exact fun α' H' _ _ v r => by rw [rep_bl r]; exact q H'
omit [Tabs] in
theorem at_mk {h : Heap} (KX : K.In h) (G : h.Ns mainGlobals mg) {t : Tab} {f : String} {a : Addr} {oc kV dc pm cd ct : Value} {od an : Option Addr} {sl : Array (Option Value)} (a1 : PySem.W.nsIn K mainGlobals (Str.ofString f) = some (some (.ref a)))
    (l1 : K.lookup a = some ⟨oc, od, .func (PySem.W.fnOf (Str.ofString f) (Str.ofString f) (defArgs t.st) (defBody t.st) (defScope t.st) .none kV dc pm an cd ct), sl⟩) (c1 : PySem.W.codeIn K cd (Str.ofString f) = true) (k1 : PySem.W.keepIn K (.ref a) = true)
    (hb : ∀ (kV doc pm : Value) (an : Option Addr) (cdv ct : Value) (us : List Value), us.length = t.d.pn.length → bindArgs (PySem.W.fnOf (Str.ofString f) (Str.ofString f) (defArgs t.st) (defBody t.st) (defScope t.st) .none kV doc pm an cdv ct) ⟨us, []⟩ = pure (t.d.pn.zip us))
    (hk : ∀ (kV doc pm : Value) (an : Option Addr) (cdv ct : Value), ∀ n qs, (n, qs) ∈ t.d.kw → KBinds K (PySem.W.fnOf (Str.ofString f) (Str.ofString f) (defArgs t.st) (defBody t.st) (defScope t.st) .none kV doc pm an cdv ct) t.d.pn ((ksOf t.d n qs).map Str.ofString) (placeN n qs) (placeN n qs)) :
    At K mg f t a (PySem.W.fnOf (Str.ofString f) (Str.ofString f) (defArgs t.st) (defBody t.st) (defScope t.st) .none kV dc pm an cd ct) := by
  have F := fun_mk (st := t.st) l1 c1 k1
  exact ⟨F, PySem.W.mg_of KX G a1, F.binds hb, hk kV dc pm an cd ct⟩
end
end Mi

namespace K03
open PySem PySem.Spec L2 Mi
/-! ### the text in the small language (printed by gen.py) -/
def topS (i : Nat) : Stmt := PySem.Challenge.pw_whoevercomesfirst_k03_times.main.body.getD i (.Pass ⟨0, 0, 0, 0⟩)
def xnames : List String := ["BadLine"]
def d_are_figures : Fn := ⟨["word"], [], 2, (.cons (.ret (.and (.chain .lt .le (.con (.int 0)) (.bi .len (.cons (.var 0) .nil)) (.cst "LONGEST" 9)) (.one (.anyg true (.nm 1) (.sgn (.var 0)) .no (.sin false (.var 1) (.cstS "DIGITS" "0123456789")) [1])))) .nil)⟩
def t_are_figures : Tab := ⟨topS 6, [Str.ofString "word", Str.ofString "sign"], d_are_figures, true⟩
def d_two_figures : Fn := ⟨["number"], [], 1, (.cons (.ret (.bin true .add (.ife (.v (.cmp .lt (.var 0) (.con (.int 10)))) (.con (.str "0")) (.con (.str ""))) (.bi .str (.cons (.var 0) .nil)))) .nil)⟩
def t_two_figures : Tab := ⟨topS 11, [Str.ofString "number"], d_two_figures, false⟩
def d_time_text : Fn := ⟨["minute"], [(0, [0])], 5, (.cons (.par [1, 2] (.cons (.bin false .fdiv (.var 0) (.cst "DAY" 1440)) (.cons (.bin false .mod (.var 0) (.cst "DAY" 1440)) .nil))) (.cons (.par [3, 4] (.cons (.bin false .fdiv (.var 2) (.cst "HOUR" 60)) (.cons (.bin false .mod (.var 2) (.cst "HOUR" 60)) .nil))) (.cons (.ife (.v (.cmp .eq (.var 1) (.con (.int 0)))) (.cons (.ret (.bin true .add (.bin false .add (.bi .str (.cons (.var 3) .nil)) (.con (.str ":"))) (.call true "two_figures" (.cons (.var 4) .nil)))) .nil) .nil) (.cons (.ret (.bin true .add (.bin false .add (.bin false .add (.bin false .add (.bi .str (.cons (.var 1) .nil)) (.con (.str ":"))) (.call true "two_figures" (.cons (.var 3) .nil))) (.con (.str ":"))) (.call true "two_figures" (.cons (.var 4) .nil)))) .nil))))⟩
def t_time_text : Tab := ⟨topS 12, [Str.ofString "minute", Str.ofString "days", Str.ofString "rest", Str.ofString "hours", Str.ofString "minutes"], d_time_text, false⟩
def d_told_time : Fn := ⟨["text"], [], 6, (.cons (.set 1 (.split false (.var 0) (.con (.str ":")))) (.cons (.ife (.or (.v (.cmp .notin (.bi .len (.cons (.var 1) .nil)) (.tup (.cons (.con (.int 2)) (.cons (.con (.int 3)) .nil))))) (.one (.not (.v (.anyg true (.nm 5) (.val (.var 1)) .no (.call true "are_figures" (.cons (.var 5) .nil)) [5]))))) (.cons (.ret (.con .non)) .nil) .nil) (.cons (.unp [2, 3, 4] (.bin false .add (.bin false .mul (.lst false (.cons (.con (.int 0)) .nil)) (.bin false .sub (.con (.int 3)) (.bi .len (.cons (.var 1) .nil)))) (.lc false (.nm 5) (.val (.var 1)) .no (.bi .int (.cons (.var 5) .nil)) [5]))) (.cons (.ife (.or (.v (.cmp .ne (.bi .len (.cons (.ix (.var 1) (.neg (.con (.int 1)))) .nil)) (.con (.int 2)))) (.or (.v (.cmp .ge (.var 3) (.cst "HOURS" 24))) (.one (.v (.cmp .ge (.var 4) (.cst "HOUR" 60)))))) (.cons (.ret (.con .non)) .nil) .nil) (.cons (.ret (.bin true .add (.bin false .add (.bin false .mul (.var 2) (.cst "DAY" 1440)) (.bin false .mul (.var 3) (.cst "HOUR" 60))) (.var 4))) .nil)))))⟩
def t_told_time : Tab := ⟨topS 13, [Str.ofString "text", Str.ofString "parts", Str.ofString "days", Str.ofString "hours", Str.ofString "minutes", Str.ofString "part"], d_told_time, true⟩
def d_read_time : Fn := ⟨["text"], [(0, [0])], 2, (.cons (.set 1 (.call true "told_time" (.cons (.var 0) .nil))) (.cons (.ife (.v (.cmp .isN (.var 1) (.con .non))) (.cons (.raise "BadLine" ["line", "word"] (.cons (.con (.int 1)) (.cons (.con (.str "time")) .nil))) .nil) .nil) (.cons (.ret (.var 1)) .nil)))⟩
def t_read_time : Tab := ⟨topS 14, [Str.ofString "text", Str.ofString "minute"], d_read_time, false⟩
def d_length_text : Fn := ⟨["minutes"], [(0, [0])], 2, (.cons (.ife (.v (.cmp .lt (.var 0) (.cst "HOUR" 60))) (.cons (.ret (.bi .str (.cons (.var 0) .nil))) .nil) .nil) (.cons (.set 1 (.bin false .mod (.var 0) (.cst "HOUR" 60))) (.cons (.ret (.bin true .add (.bin false .add (.bi .str (.cons (.bin false .fdiv (.var 0) (.cst "HOUR" 60)) .nil)) (.con (.str "h"))) (.ife (.v (.cmp .gt (.var 1) (.con (.int 0)))) (.call true "two_figures" (.cons (.var 1) .nil)) (.con (.str ""))))) .nil)))⟩
def t_length_text : Tab := ⟨topS 15, [Str.ofString "minutes", Str.ofString "rest"], d_length_text, false⟩
def d_told_length : Fn := ⟨["text"], [], 2, (.cons (.set 1 (.split false (.var 0) (.con (.str "h")))) (.cons (.ife (.or (.v (.cmp .gt (.bi .len (.cons (.var 1) .nil)) (.con (.int 2)))) (.one (.not (.v (.call true "are_figures" (.cons (.ix (.var 1) (.con (.int 0))) .nil)))))) (.cons (.ret (.con .non)) .nil) .nil) (.cons (.ife (.v (.cmp .eq (.bi .len (.cons (.var 1) .nil)) (.con (.int 1)))) (.cons (.ret (.bi .int (.cons (.ix (.var 1) (.con (.int 0))) .nil))) .nil) .nil) (.cons (.ife (.v (.cmp .eq (.ix (.var 1) (.con (.int 1))) (.con (.str "")))) (.cons (.ret (.bin true .mul (.bi .int (.cons (.ix (.var 1) (.con (.int 0))) .nil)) (.cst "HOUR" 60))) .nil) .nil) (.cons (.ife (.or (.v (.cmp .ne (.bi .len (.cons (.ix (.var 1) (.con (.int 1))) .nil)) (.con (.int 2)))) (.or (.not (.v (.call true "are_figures" (.cons (.ix (.var 1) (.con (.int 1))) .nil)))) (.one (.v (.cmp .ge (.bi .int (.cons (.ix (.var 1) (.con (.int 1))) .nil)) (.cst "HOUR" 60)))))) (.cons (.ret (.con .non)) .nil) .nil) (.cons (.ret (.bin true .add (.bin false .mul (.bi .int (.cons (.ix (.var 1) (.con (.int 0))) .nil)) (.cst "HOUR" 60)) (.bi .int (.cons (.ix (.var 1) (.con (.int 1))) .nil)))) .nil))))))⟩
def t_told_length : Tab := ⟨topS 16, [Str.ofString "text", Str.ofString "parts"], d_told_length, false⟩
def d_read_length : Fn := ⟨["text"], [(0, [0])], 2, (.cons (.set 1 (.call true "told_length" (.cons (.var 0) .nil))) (.cons (.ife (.v (.cmp .isN (.var 1) (.con .non))) (.cons (.raise "BadLine" ["line", "word"] (.cons (.con (.int 1)) (.cons (.con (.str "length")) .nil))) .nil) .nil) (.cons (.ret (.var 1)) .nil)))⟩
def t_read_length : Tab := ⟨topS 17, [Str.ofString "text", Str.ofString "minutes"], d_read_length, false⟩
def d__law_tower : Fn := ⟨["script"], [], 5, (.cons (.set 1 (.lst true .nil)) (.cons (.set 2 (.con (.int 523031))) (.cons (.for_ (.nm 3) (.val (.sl false (.var 0) .no (.so (.con (.int 58))))) (.cons (.set 4 (.bin false .mod (.bi .abs (.cons (.bi .int (.cons (.var 3) .nil)) .nil)) (.bin false .mul (.bin false .mul (.bin false .mul (.bin false .mul (.bin false .mul (.bin false .mul (.bin false .pow (.con (.int 10)) (.con (.int 60))) (.bin false .pow (.con (.int 10)) (.con (.int 60)))) (.bin false .pow (.con (.int 10)) (.con (.int 60)))) (.bin false .pow (.con (.int 10)) (.con (.int 60)))) (.bin false .pow (.con (.int 10)) (.con (.int 60)))) (.bin false .pow (.con (.int 10)) (.con (.int 60)))) (.bin false .pow (.con (.int 10)) (.con (.int 60)))))) (.cons (.set 2 (.bin false .mod (.bi .int (.cons (.bin false .add (.bin false .add (.bin false .mul (.var 2) (.con (.int 90863))) (.bin false .mod (.var 4) (.con (.int 1000076369)))) (.bi .int (.cons (.cmp .lt (.var 3) (.con (.int 0))) .nil))) .nil)) (.con (.int 2147478089)))) (.cons (.ife (.v (.cmp .ge (.var 4) (.bin false .pow (.con (.int 10)) (.con (.int 18))))) (.cons (.exp (.meth .append (.var 1) (.cons (.var 4) .nil))) .nil) .nil) .nil)))) (.cons (.ret (.lst true (.cons (.rev true (.var 1)) (.cons (.var 2) (.cons (.con (.int 0)) .nil))))) .nil))))⟩
def t__law_tower : Tab := ⟨topS 19, [Str.ofString "script", Str.ofString "great", Str.ofString "stirred", Str.ofString "cell", Str.ofString "size"], d__law_tower, false⟩
def d__law_chime : Fn := ⟨["tower", "many"], [], 3, (.cons (.ife (.v (.cmp .lt (.var 1) (.con (.int 2)))) (.cons (.ret (.con (.int 0))) .nil) .nil) (.cons (.ife (.v (.cmp .gt (.bi .len (.cons (.ix (.var 0) (.con (.int 0))) .nil)) (.con (.int 0)))) (.cons (.set 2 (.bi .int (.cons (.ix (.ix (.var 0) (.con (.int 0))) (.neg (.con (.int 1)))) .nil))) (.cons (.seti (.ix (.var 0) (.con (.int 0))) (.neg (.con (.int 1))) (.bin true .fdiv (.var 2) (.var 1))) (.cons (.ife (.v (.cmp .lt (.var 2) (.var 1))) (.cons (.exp (.meth .pop (.ix (.var 0) (.con (.int 0))) .nil)) .nil) .nil) (.cons (.ret (.bin true .mod (.bi .int (.cons (.var 2) .nil)) (.var 1))) .nil)))) .nil) (.cons (.augi .add (.var 0) (.con (.int 2)) (.con (.int 1))) (.cons (.seti (.var 0) (.con (.int 1)) (.bin true .mod (.bi .int (.cons (.bin false .add (.bin false .add (.bin false .mul (.ix (.var 0) (.con (.int 1))) (.con (.int 108011))) (.bin false .mul (.ix (.var 0) (.con (.int 2))) (.con (.int 7237)))) (.con (.int 373))) .nil)) (.con (.int 2147478089)))) (.cons (.ret (.bin true .mod (.bi .int (.cons (.bin false .fdiv (.ix (.var 0) (.con (.int 1))) (.con (.int 419))) .nil)) (.var 1))) .nil)))))⟩
def t__law_chime : Tab := ⟨topS 20, [Str.ofString "tower", Str.ofString "many", Str.ofString "size"], d__law_chime, false⟩
def d__law_of : Fn := ⟨["tower", "row"], [], 2, (.cons (.ret (.ix (.var 1) (.call false "_law_chime" (.cons (.var 0) (.cons (.bi .len (.cons (.var 1) .nil)) .nil))))) .nil)⟩
def t__law_of : Tab := ⟨topS 21, [Str.ofString "tower", Str.ofString "row"], d__law_of, false⟩
def d__law_same : Fn := ⟨["told", "due"], [], 6, (.cons (.set 2 (.lst true (.cons (.tup (.cons (.var 0) (.cons (.var 1) .nil))) .nil))) (.cons (.while_ (.v (.cmp .gt (.bi .len (.cons (.var 2) .nil)) (.con (.int 0)))) (.cons (.unp [3, 4] (.meth .pop (.var 2) .nil)) (.cons (.ife (.v (.cmp .isN (.var 4) (.con .non))) (.cons (.ife (.v (.cmp .notN (.var 3) (.con .non))) (.cons (.ret (.con (.bl false))) .nil) .nil) .nil) (.cons (.ife (.v (.isi (.var 4) ["tuple", "list"])) (.cons (.ife (.or (.v (.cmp .ne (.isi (.var 3) ["tuple"]) (.isi (.var 4) ["tuple"]))) (.one (.v (.cmp .ne (.isi (.var 3) ["list"]) (.isi (.var 4) ["list"]))))) (.cons (.ret (.con (.bl false))) .nil) .nil) (.cons (.ife (.v (.cmp .ne (.bi .len (.cons (.var 3) .nil)) (.bi .len (.cons (.var 4) .nil)))) (.cons (.ret (.con (.bl false))) .nil) .nil) (.cons (.exp (.meth .extend (.var 2) (.cons (.lc false (.nm 5) (.range1 (.bi .len (.cons (.var 4) .nil))) .no (.tup (.cons (.ix (.var 3) (.var 5)) (.cons (.ix (.var 4) (.var 5)) .nil))) [5]) .nil))) .nil))) (.cons (.ife (.v (.isi (.var 4) ["bool"])) (.cons (.ife (.or (.not (.v (.isi (.var 3) ["bool"]))) (.one (.v (.cmp .ne (.var 3) (.var 4))))) (.cons (.ret (.con (.bl false))) .nil) .nil) .nil) (.cons (.ife (.v (.isi (.var 4) ["str"])) (.cons (.ife (.or (.not (.v (.isi (.var 3) ["str"]))) (.one (.v (.cmp .ne (.var 3) (.var 4))))) (.cons (.ret (.con (.bl false))) .nil) .nil) .nil) (.cons (.ife (.or (.v (.isi (.var 3) ["bool"])) (.or (.not (.v (.isi (.var 3) ["int"]))) (.one (.v (.cmp .ne (.var 3) (.var 4)))))) (.cons (.ret (.con (.bl false))) .nil) .nil) .nil)) .nil)) .nil)) .nil)) .nil))) (.cons (.ret (.con (.bl true))) .nil)))⟩
def t__law_same : Tab := ⟨topS 22, [Str.ofString "told", Str.ofString "due", Str.ofString "todo", Str.ofString "one", Str.ofString "other", Str.ofString "at"], d__law_same, false⟩
def d__law_two : Fn := ⟨["number"], [], 1, (.cons (.ret (.bin true .add (.six (.con (.str "0123456789")) (.bin false .fdiv (.var 0) (.con (.int 10)))) (.six (.con (.str "0123456789")) (.bin false .mod (.bi .int (.cons (.var 0) .nil)) (.con (.int 10)))))) .nil)⟩
def t__law_two : Tab := ⟨topS 23, [Str.ofString "number"], d__law_two, false⟩
def d__law_time : Fn := ⟨["minute"], [], 3, (.cons (.set 1 (.bin false .fdiv (.var 0) (.con (.int 60)))) (.cons (.set 2 (.bin false .add (.con (.str ":")) (.call true "_law_two" (.cons (.bin false .mod (.bi .int (.cons (.var 0) .nil)) (.con (.int 60))) .nil)))) (.cons (.ife (.v (.cmp .lt (.var 1) (.con (.int 24)))) (.cons (.ret (.bin true .add (.bi .str (.cons (.var 1) .nil)) (.var 2))) .nil) .nil) (.cons (.ret (.bin true .add (.bin false .add (.bin false .add (.bi .str (.cons (.bin false .fdiv (.var 1) (.con (.int 24))) .nil)) (.con (.str ":"))) (.call true "_law_two" (.cons (.bin false .mod (.bi .int (.cons (.var 1) .nil)) (.con (.int 24))) .nil))) (.var 2))) .nil))))⟩
def t__law_time : Tab := ⟨topS 24, [Str.ofString "minute", Str.ofString "hours", Str.ofString "text"], d__law_time, false⟩
def d__law_length : Fn := ⟨["minutes"], [], 1, (.cons (.ife (.v (.cmp .lt (.var 0) (.con (.int 60)))) (.cons (.ret (.bi .str (.cons (.var 0) .nil))) .nil) .nil) (.cons (.ret (.bin true .add (.bin false .add (.bi .str (.cons (.bin false .fdiv (.var 0) (.con (.int 60))) .nil)) (.con (.str "h"))) (.ix (.lst false (.cons (.call true "_law_two" (.cons (.bin false .mod (.bi .int (.cons (.var 0) .nil)) (.con (.int 60))) .nil)) (.cons (.con (.str "")) .nil))) (.bi .int (.cons (.cmp .eq (.bin false .mod (.bi .int (.cons (.var 0) .nil)) (.con (.int 60))) (.con (.int 0))) .nil))))) .nil))⟩
def t__law_length : Tab := ⟨topS 25, [Str.ofString "minutes"], d__law_length, false⟩
def d__law_figures : Fn := ⟨["word", "most"], [], 3, (.cons (.for_ (.nm 2) (.sgn (.var 0)) (.cons (.ife (.v (.sin true (.var 2) (.con (.str "0123456789")))) (.cons (.ret (.con (.bl false))) .nil) .nil) .nil)) (.cons (.ret (.chain .lt .le (.con (.int 0)) (.bi .len (.cons (.var 0) .nil)) (.var 1))) .nil))⟩
def t__law_figures : Tab := ⟨topS 26, [Str.ofString "word", Str.ofString "most", Str.ofString "sign"], d__law_figures, false⟩
def d__law_due_time : Fn := ⟨["text"], [], 5, (.cons (.set 1 (.lst true (.cons (.con (.str "")) .nil))) (.cons (.for_ (.nm 2) (.sgn (.var 0)) (.cons (.ife (.v (.cmp .eq (.var 2) (.con (.str ":")))) (.cons (.exp (.meth .append (.var 1) (.cons (.con (.str "")) .nil))) .nil) (.cons (.seti (.var 1) (.neg (.con (.int 1))) (.bin false .add (.ix (.var 1) (.neg (.con (.int 1)))) (.var 2))) .nil)) .nil)) (.cons (.ife (.or (.v (.cmp .notin (.bi .len (.cons (.var 1) .nil)) (.tup (.cons (.con (.int 2)) (.cons (.con (.int 3)) .nil))))) (.one (.v (.cmp .gt (.bi .len (.cons (.lc false (.nm 4) (.val (.var 1)) (.so (.not (.v (.call true "_law_figures" (.cons (.var 4) (.cons (.con (.int 9)) .nil)))))) (.var 4) [4]) .nil)) (.con (.int 0)))))) (.cons (.ret (.tup (.cons (.con (.str "line")) (.cons (.con (.int 1)) (.cons (.con (.str "time")) .nil))))) .nil) .nil) (.cons (.set 3 (.bin false .add (.bin false .mul (.lst false (.cons (.con (.int 0)) .nil)) (.bin false .sub (.con (.int 3)) (.bi .len (.cons (.var 1) .nil)))) (.lc false (.nm 4) (.val (.var 1)) .no (.bi .int (.cons (.var 4) .nil)) [4]))) (.cons (.ife (.or (.v (.cmp .gt (.ix (.var 3) (.con (.int 1))) (.con (.int 23)))) (.or (.v (.cmp .ne (.bi .len (.cons (.ix (.var 1) (.neg (.con (.int 1)))) .nil)) (.con (.int 2)))) (.one (.v (.cmp .gt (.ix (.var 3) (.con (.int 2))) (.con (.int 59))))))) (.cons (.ret (.tup (.cons (.con (.str "line")) (.cons (.con (.int 1)) (.cons (.con (.str "time")) .nil))))) .nil) .nil) (.cons (.ret (.tup (.cons (.con (.str "told")) (.cons (.bin false .add (.bin false .add (.bin false .mul (.ix (.var 3) (.con (.int 0))) (.con (.int 1440))) (.bin false .mul (.ix (.var 3) (.con (.int 1))) (.con (.int 60)))) (.ix (.var 3) (.con (.int 2)))) .nil)))) .nil))))))⟩
def t__law_due_time : Tab := ⟨topS 27, [Str.ofString "text", Str.ofString "words", Str.ofString "sign", Str.ofString "numbers", Str.ofString "word"], d__law_due_time, false⟩
def d__law_due_length : Fn := ⟨["text"], [], 3, (.cons (.set 1 (.lst true (.cons (.con (.str "")) .nil))) (.cons (.for_ (.nm 2) (.sgn (.var 0)) (.cons (.ife (.v (.cmp .eq (.var 2) (.con (.str "h")))) (.cons (.exp (.meth .append (.var 1) (.cons (.con (.str "")) .nil))) .nil) (.cons (.seti (.var 1) (.neg (.con (.int 1))) (.bin false .add (.ix (.var 1) (.neg (.con (.int 1)))) (.var 2))) .nil)) .nil)) (.cons (.ife (.or (.v (.cmp .gt (.bi .len (.cons (.var 1) .nil)) (.con (.int 2)))) (.one (.not (.v (.call true "_law_figures" (.cons (.ix (.var 1) (.con (.int 0))) (.cons (.con (.int 9)) .nil))))))) (.cons (.ret (.tup (.cons (.con (.str "line")) (.cons (.con (.int 1)) (.cons (.con (.str "length")) .nil))))) .nil) .nil) (.cons (.ife (.v (.cmp .eq (.bi .len (.cons (.var 1) .nil)) (.con (.int 1)))) (.cons (.ret (.tup (.cons (.con (.str "told")) (.cons (.bi .int (.cons (.ix (.var 1) (.con (.int 0))) .nil)) .nil)))) .nil) .nil) (.cons (.ife (.and (.v (.cmp .ne (.ix (.var 1) (.con (.int 1))) (.con (.str "")))) (.one (.or (.not (.v (.call true "_law_figures" (.cons (.ix (.var 1) (.con (.int 1))) (.cons (.con (.int 2)) .nil))))) (.or (.v (.cmp .ne (.bi .len (.cons (.ix (.var 1) (.con (.int 1))) .nil)) (.con (.int 2)))) (.one (.v (.cmp .gt (.bi .int (.cons (.ix (.var 1) (.con (.int 1))) .nil)) (.con (.int 59))))))))) (.cons (.ret (.tup (.cons (.con (.str "line")) (.cons (.con (.int 1)) (.cons (.con (.str "length")) .nil))))) .nil) .nil) (.cons (.ret (.tup (.cons (.con (.str "told")) (.cons (.bin false .add (.bin false .mul (.bi .int (.cons (.ix (.var 1) (.con (.int 0))) .nil)) (.con (.int 60))) (.bi .int (.cons (.bin false .add (.con (.str "0")) (.ix (.var 1) (.con (.int 1)))) .nil))) .nil)))) .nil))))))⟩
def t__law_due_length : Tab := ⟨topS 28, [Str.ofString "text", Str.ofString "words", Str.ofString "sign"], d__law_due_length, false⟩
def d__law_heard : Fn := ⟨["way", "text"], [], 3, (.cons (.try_ xnames (.cons (.ret (.tup (.cons (.con (.str "told")) (.cons (.ife (.v (.cmp .eq (.var 0) (.con (.str "time")))) (.call true "read_time" (.cons (.var 1) .nil)) (.call true "read_length" (.cons (.var 1) .nil))) .nil)))) .nil) [⟨"BadLine", (some 2), (.tup [(.con (.str "line")), (.fld "line"), (.fld "word")]), none⟩, ⟨"ComeError", none, (.tup [(.con (.str "other"))]), none⟩]) .nil)⟩
def t__law_heard : Tab := ⟨topS 29, [Str.ofString "way", Str.ofString "text", Str.ofString "error"], d__law_heard, false⟩
def d__law_word : Fn := ⟨["tower"], [], 4, (.cons (.set 1 (.call false "_law_chime" (.cons (.var 0) (.cons (.con (.int 9)) .nil)))) (.cons (.ife (.v (.cmp .lt (.var 1) (.con (.int 4)))) (.cons (.ret (.call true "_law_two" (.cons (.call false "_law_of" (.cons (.var 0) (.cons (.tup (.cons (.con (.int 0)) (.cons (.con (.int 9)) (.cons (.con (.int 23)) (.cons (.con (.int 24)) (.cons (.con (.int 59)) (.cons (.con (.int 60)) (.cons (.con (.int 99)) (.cons (.call false "_law_chime" (.cons (.var 0) (.cons (.con (.int 100)) .nil))) .nil))))))))) .nil))) .nil))) .nil) .nil) (.cons (.ife (.v (.cmp .eq (.var 1) (.con (.int 4)))) (.cons (.ret (.bi .str (.cons (.call false "_law_chime" (.cons (.var 0) (.cons (.con (.int 10)) .nil))) .nil))) .nil) .nil) (.cons (.set 2 (.call false "_law_of" (.cons (.var 0) (.cons (.tup (.cons (.con (.int 1)) (.cons (.con (.int 2)) (.cons (.con (.int 3)) (.cons (.con (.int 8)) (.cons (.con (.int 9)) (.cons (.con (.int 10)) (.cons (.con (.int 0)) (.cons (.con (.int 11)) .nil))))))))) .nil)))) (.cons (.ret (.join (.con (.str "")) (.lc false (.nm 3) (.range1 (.var 2)) .no (.six (.con (.str "0123456789")) (.call false "_law_chime" (.cons (.var 0) (.cons (.con (.int 10)) .nil)))) [3]))) .nil)))))⟩
def t__law_word : Tab := ⟨topS 30, [Str.ofString "tower", Str.ofString "way", Str.ofString "many", Str.ofString "lap"], d__law_word, false⟩
def d__law_bent : Fn := ⟨["tower", "text"], [], 4, (.cons (.set 2 (.call false "_law_chime" (.cons (.var 0) (.cons (.bin false .add (.bi .len (.cons (.var 1) .nil)) (.con (.int 1))) .nil)))) (.cons (.set 3 (.call false "_law_of" (.cons (.var 0) (.cons (.tup (.cons (.con (.str ":")) (.cons (.con (.str "h")) (.cons (.con (.str "0")) (.cons (.con (.str "9")) (.cons (.con (.str "-")) (.cons (.con (.str "+")) (.cons (.con (.str "a")) (.cons (.con (.str ".")) (.cons (.con (.str "")) (.cons (.con (.str "H")) (.cons (.con (.str "_")) (.cons (.con (.str "1")) (.cons (.con (.str "::")) (.cons (.con (.str "00")) .nil))))))))))))))) .nil)))) (.cons (.ret (.ix (.lst false (.cons (.bin false .add (.bin false .add (.ssl (.var 1) .no (.so (.var 2))) (.var 3)) (.ssl (.var 1) (.so (.var 2)) .no)) (.cons (.bin false .add (.ssl (.var 1) .no (.so (.var 2))) (.ssl (.var 1) (.so (.bin false .add (.var 2) (.con (.int 1)))) .no)) (.cons (.bin false .add (.bin false .add (.ssl (.var 1) .no (.so (.var 2))) (.var 3)) (.ssl (.var 1) (.so (.bin false .add (.var 2) (.con (.int 1)))) .no)) (.cons (.bin false .add (.con (.str "0")) (.var 1)) (.cons (.bin false .add (.var 1) (.con (.str "0"))) .nil)))))) (.call false "_law_chime" (.cons (.var 0) (.cons (.con (.int 5)) .nil))))) .nil)))⟩
def t__law_bent : Tab := ⟨topS 31, [Str.ofString "tower", Str.ofString "text", Str.ofString "at", Str.ofString "sign"], d__law_bent, false⟩
def d__law_minute : Fn := ⟨["tower"], [], 2, (.cons (.set 1 (.call false "_law_of" (.cons (.var 0) (.cons (.tup (.cons (.con (.int 0)) (.cons (.con (.int 60)) (.cons (.con (.int 1440)) (.cons (.con (.int 600)) (.cons (.con (.int 2880)) (.cons (.con (.int 8640)) (.cons (.con (.int 9999)) (.cons (.con (.int 1500)) (.cons (.con (.int 100)) .nil)))))))))) .nil)))) (.cons (.ret (.bi .min (.cons (.con (.int 9999)) (.cons (.bi .max (.cons (.con (.int 0)) (.cons (.call false "_law_of" (.cons (.var 0) (.cons (.tup (.cons (.bin false .sub (.bin false .add (.var 1) (.call false "_law_chime" (.cons (.var 0) (.cons (.con (.int 3)) .nil)))) (.con (.int 1))) (.cons (.call false "_law_chime" (.cons (.var 0) (.cons (.con (.int 1440)) .nil))) (.cons (.call false "_law_chime" (.cons (.var 0) (.cons (.con (.int 60)) .nil))) (.cons (.call false "_law_chime" (.cons (.var 0) (.cons (.con (.int 10000)) .nil))) (.cons (.bin false .add (.var 1) (.con (.int 59))) .nil)))))) .nil))) .nil))) .nil)))) .nil))⟩
def t__law_minute : Tab := ⟨topS 32, [Str.ofString "tower", Str.ofString "border"], d__law_minute, false⟩
def d__law_asked : Fn := ⟨["tower"], [], 8, (.cons (.set 1 (.call false "_law_minute" (.cons (.var 0) .nil))) (.cons (.par [5, 6] (.cons (.call true "_law_time" (.cons (.var 1) .nil)) (.cons (.call true "_law_length" (.cons (.var 1) .nil)) .nil))) (.cons (.ife (.not (.v (.call true "_law_same" (.cons (.tup (.cons (.call true "time_text" (.cons (.var 1) .nil)) (.cons (.call true "length_text" (.cons (.var 1) .nil)) .nil))) (.cons (.tup (.cons (.var 5) (.cons (.var 6) .nil))) .nil))))) (.cons (.ret (.con (.bl false))) .nil) .nil) (.cons (.ife (.not (.v (.call true "_law_same" (.cons (.tup (.cons (.call true "_law_heard" (.cons (.con (.str "time")) (.cons (.var 5) .nil))) (.cons (.call true "_law_heard" (.cons (.con (.str "length")) (.cons (.var 6) .nil))) .nil))) (.cons (.tup (.cons (.tup (.cons (.con (.str "told")) (.cons (.var 1) .nil))) (.cons (.tup (.cons (.con (.str "told")) (.cons (.var 1) .nil))) .nil))) .nil))))) (.cons (.ret (.con (.bl false))) .nil) .nil) (.cons (.set 2 (.bin false .add (.var 1) (.bin false .mul (.con (.int 1440)) (.call false "_law_of" (.cons (.var 0) (.cons (.tup (.cons (.con (.int 10)) (.cons (.con (.int 365)) (.cons (.con (.int 99999)) (.cons (.con (.int 0)) (.cons (.call false "_law_chime" (.cons (.var 0) (.cons (.con (.int 900000000)) .nil))) .nil)))))) .nil)))))) (.cons (.ife (.not (.v (.call true "_law_same" (.cons (.tup (.cons (.call true "_law_heard" (.cons (.con (.str "time")) (.cons (.call true "_law_time" (.cons (.var 2) .nil)) .nil))) (.cons (.call true "_law_heard" (.cons (.con (.str "length")) (.cons (.bi .str (.cons (.bin false .mod (.bi .int (.cons (.var 2) .nil)) (.bin false .pow (.con (.int 10)) (.con (.int 9)))) .nil)) .nil))) .nil))) (.cons (.tup (.cons (.tup (.cons (.con (.str "told")) (.cons (.var 2) .nil))) (.cons (.tup (.cons (.con (.str "told")) (.cons (.bin false .mod (.bi .int (.cons (.var 2) .nil)) (.bin false .pow (.con (.int 10)) (.con (.int 9)))) .nil))) .nil))) .nil))))) (.cons (.ret (.con (.bl false))) .nil) .nil) (.cons (.set 3 (.lst false (.cons (.bin false .add (.bin false .add (.call false "_law_word" (.cons (.var 0) .nil)) (.con (.str ":"))) (.call false "_law_word" (.cons (.var 0) .nil))) (.cons (.join (.con (.str ":")) (.lc false (.nm 7) (.range1 (.bin false .add (.con (.int 1)) (.call false "_law_chime" (.cons (.var 0) (.cons (.con (.int 4)) .nil))))) .no (.call false "_law_word" (.cons (.var 0) .nil)) [7])) (.cons (.call false "_law_bent" (.cons (.var 0) (.cons (.var 5) .nil))) .nil))))) (.cons (.set 3 (.bin false .add (.var 3) (.lst false (.cons (.bin false .add (.bin false .add (.call true "_law_two" (.cons (.call false "_law_chime" (.cons (.var 0) (.cons (.con (.int 30)) .nil))) .nil)) (.con (.str ":"))) (.call true "_law_two" (.cons (.call false "_law_chime" (.cons (.var 0) (.cons (.con (.int 70)) .nil))) .nil))) (.cons (.bin false .add (.bin false .add (.bin false .add (.bin false .add (.call false "_law_word" (.cons (.var 0) .nil)) (.con (.str ":"))) (.call true "_law_two" (.cons (.call false "_law_chime" (.cons (.var 0) (.cons (.con (.int 24)) .nil))) .nil))) (.con (.str ":"))) (.call true "_law_two" (.cons (.call false "_law_chime" (.cons (.var 0) (.cons (.con (.int 60)) .nil))) .nil))) .nil))))) (.cons (.for_ (.nm 4) (.val (.var 3)) (.cons (.ife (.not (.v (.call true "_law_same" (.cons (.call true "_law_heard" (.cons (.con (.str "time")) (.cons (.var 4) .nil))) (.cons (.call true "_law_due_time" (.cons (.var 4) .nil)) .nil))))) (.cons (.ret (.con (.bl false))) .nil) .nil) .nil)) (.cons (.set 3 (.lst false (.cons (.call false "_law_word" (.cons (.var 0) .nil)) (.cons (.bin false .add (.bin false .add (.call false "_law_word" (.cons (.var 0) .nil)) (.con (.str "h"))) (.call false "_law_word" (.cons (.var 0) .nil))) (.cons (.bin false .add (.call false "_law_word" (.cons (.var 0) .nil)) (.con (.str "h"))) (.cons (.call false "_law_bent" (.cons (.var 0) (.cons (.var 6) .nil))) (.cons (.bin false .add (.bin false .add (.call false "_law_word" (.cons (.var 0) .nil)) (.con (.str "h"))) (.call true "_law_two" (.cons (.call false "_law_chime" (.cons (.var 0) (.cons (.con (.int 70)) .nil))) .nil))) .nil))))))) (.cons (.for_ (.nm 4) (.val (.var 3)) (.cons (.ife (.not (.v (.call true "_law_same" (.cons (.call true "_law_heard" (.cons (.con (.str "length")) (.cons (.var 4) .nil))) (.cons (.call true "_law_due_length" (.cons (.var 4) .nil)) .nil))))) (.cons (.ret (.con (.bl false))) .nil) .nil) .nil)) (.cons (.ret (.con (.bl true))) .nil))))))))))))⟩
def t__law_asked : Tab := ⟨topS 33, [Str.ofString "tower", Str.ofString "minute", Str.ofString "far", Str.ofString "texts", Str.ofString "text", Str.ofString "time", Str.ofString "length", Str.ofString "lap"], d__law_asked, false⟩
def d__law_hand : Fn := ⟨[], [], 4, (.cons (.set 0 (.lst false (.cons (.tup (.cons (.con (.str "0:00")) (.cons (.con (.int 0)) .nil))) (.cons (.tup (.cons (.con (.str "0:9")) (.cons (.con .non) .nil))) (.cons (.tup (.cons (.con (.str "23:59")) (.cons (.con (.int 1439)) .nil))) (.cons (.tup (.cons (.con (.str "24:00")) (.cons (.con .non) .nil))) (.cons (.tup (.cons (.con (.str "1:00:00")) (.cons (.con (.int 1440)) .nil))) (.cons (.tup (.cons (.con (.str "0:09:05")) (.cons (.con (.int 545)) .nil))) (.cons (.tup (.cons (.con (.str "1:9:30")) (.cons (.con (.int 2010)) .nil))) (.cons (.tup (.cons (.con (.str "000000009:30")) (.cons (.con (.int 570)) .nil))) (.cons (.tup (.cons (.con (.str "0000000009:30")) (.cons (.con .non) .nil))) (.cons (.tup (.cons (.con (.str "9:60")) (.cons (.con .non) .nil))) (.cons (.tup (.cons (.con (.str "9:030")) (.cons (.con .non) .nil))) (.cons (.tup (.cons (.con (.str "")) (.cons (.con .non) .nil))) .nil)))))))))))))) (.cons (.set 0 (.bin false .add (.var 0) (.lst false (.cons (.tup (.cons (.con (.str ":30")) (.cons (.con .non) .nil))) (.cons (.tup (.cons (.con (.str "999999999:23:59")) (.cons (.con (.int 1439999999999)) .nil))) (.cons (.tup (.cons (.con (.str "1:24:00")) (.cons (.con .non) .nil))) (.cons (.tup (.cons (.con (.str "9 :30")) (.cons (.con .non) .nil))) (.cons (.tup (.cons (.con (.str "1:2:3:04")) (.cons (.con .non) .nil))) (.cons (.tup (.cons (.con (.str "9:-1")) (.cons (.con .non) .nil))) (.cons (.tup (.cons (.con (.str "-1:09:30")) (.cons (.con .non) .nil))) (.cons (.tup (.cons (.con (.str "9:3 0")) (.cons (.con .non) .nil))) (.cons (.tup (.cons (.con (.str "7")) (.cons (.con .non) .nil))) (.cons (.tup (.cons (.con (.str "09:30")) (.cons (.con (.int 570)) .nil))) .nil))))))))))))) (.cons (.for_ (.tu [2, 3]) (.val (.var 0)) (.cons (.set 3 (.ife (.v (.cmp .isN (.var 3) (.con .non))) (.tup (.cons (.con (.str "line")) (.cons (.con (.int 1)) (.cons (.con (.str "time")) .nil)))) (.tup (.cons (.con (.str "told")) (.cons (.var 3) .nil))))) (.cons (.ife (.or (.v (.deq true (.var 3) (.call true "_law_due_time" (.cons (.var 2) .nil)))) (.one (.not (.v (.call true "_law_same" (.cons (.call true "_law_heard" (.cons (.con (.str "time")) (.cons (.var 2) .nil))) (.cons (.var 3) .nil))))))) (.cons (.ret (.con (.bl false))) .nil) .nil) .nil))) (.cons (.set 0 (.lst false (.cons (.tup (.cons (.con (.str "0")) (.cons (.con (.int 0)) .nil))) (.cons (.tup (.cons (.con (.str "90")) (.cons (.con (.int 90)) .nil))) (.cons (.tup (.cons (.con (.str "1h30")) (.cons (.con (.int 90)) .nil))) (.cons (.tup (.cons (.con (.str "2h")) (.cons (.con (.int 120)) .nil))) (.cons (.tup (.cons (.con (.str "2h5")) (.cons (.con .non) .nil))) (.cons (.tup (.cons (.con (.str "2h60")) (.cons (.con .non) .nil))) (.cons (.tup (.cons (.con (.str "h")) (.cons (.con .non) .nil))) (.cons (.tup (.cons (.con (.str "h30")) (.cons (.con .non) .nil))) (.cons (.tup (.cons (.con (.str "0h00")) (.cons (.con (.int 0)) .nil))) (.cons (.tup (.cons (.con (.str "007")) (.cons (.con (.int 7)) .nil))) (.cons (.tup (.cons (.con (.str "1234567890")) (.cons (.con .non) .nil))) (.cons (.tup (.cons (.con (.str "2H")) (.cons (.con .non) .nil))) (.cons (.tup (.cons (.con (.str "1h05h")) (.cons (.con .non) .nil))) (.cons (.tup (.cons (.con (.str "")) (.cons (.con .non) .nil))) (.cons (.tup (.cons (.con (.str "2 h")) (.cons (.con .non) .nil))) .nil))))))))))))))))) (.cons (.set 0 (.bin false .add (.var 0) (.lst false (.cons (.tup (.cons (.con (.str "123456789h59")) (.cons (.con (.int 7407407399)) .nil))) (.cons (.tup (.cons (.con (.str "1h+5")) (.cons (.con .non) .nil))) (.cons (.tup (.cons (.con (.str "00h59")) (.cons (.con (.int 59)) .nil))) .nil)))))) (.cons (.for_ (.tu [2, 3]) (.val (.var 0)) (.cons (.set 3 (.ife (.v (.cmp .isN (.var 3) (.con .non))) (.tup (.cons (.con (.str "line")) (.cons (.con (.int 1)) (.cons (.con (.str "length")) .nil)))) (.tup (.cons (.con (.str "told")) (.cons (.var 3) .nil))))) (.cons (.ife (.or (.v (.deq true (.var 3) (.call true "_law_due_length" (.cons (.var 2) .nil)))) (.one (.not (.v (.call true "_law_same" (.cons (.call true "_law_heard" (.cons (.con (.str "length")) (.cons (.var 2) .nil))) (.cons (.var 3) .nil))))))) (.cons (.ret (.con (.bl false))) .nil) .nil) .nil))) (.cons (.set 1 (.tup (.cons (.call true "time_text" (.cons (.con (.int 0)) .nil)) (.cons (.call true "time_text" (.cons (.con (.int 1439)) .nil)) (.cons (.callk true "time_text" .nil [0] (.cons (.con (.int 1440)) .nil)) (.cons (.call true "time_text" (.cons (.con (.int 9999)) .nil)) (.cons (.call true "time_text" (.cons (.con (.int 600)) .nil)) (.cons (.call true "length_text" (.cons (.con (.int 0)) .nil)) (.cons (.call true "length_text" (.cons (.con (.int 59)) .nil)) (.cons (.call true "length_text" (.cons (.con (.int 60)) .nil)) (.cons (.callk true "length_text" .nil [0] (.cons (.con (.int 65)) .nil)) (.cons (.call true "length_text" (.cons (.con (.int 9999)) .nil)) .nil)))))))))))) (.cons (.ife (.not (.v (.call true "_law_same" (.cons (.var 1) (.cons (.tup (.cons (.con (.str "0:00")) (.cons (.con (.str "23:59")) (.cons (.con (.str "1:00:00")) (.cons (.con (.str "6:22:39")) (.cons (.con (.str "10:00")) (.cons (.con (.str "0")) (.cons (.con (.str "59")) (.cons (.con (.str "1h")) (.cons (.con (.str "1h05")) (.cons (.con (.str "166h39")) .nil))))))))))) .nil))))) (.cons (.ret (.con (.bl false))) .nil) .nil) (.cons (.ret (.call true "_law_same" (.cons (.tup (.cons (.callk true "read_time" .nil [0] (.cons (.con (.str "9:05")) .nil)) (.cons (.callk true "read_length" .nil [0] (.cons (.con (.str "1h")) .nil)) .nil))) (.cons (.tup (.cons (.con (.int 545)) (.cons (.con (.int 60)) .nil))) .nil)))) .nil)))))))))⟩
def t__law_hand : Tab := ⟨topS 34, [Str.ofString "rows", Str.ofString "told", Str.ofString "text", Str.ofString "due"], d__law_hand, false⟩
def d_law : Fn := ⟨["script"], [], 3, (.cons (.set 1 (.call false "_law_tower" (.cons (.var 0) .nil))) (.cons (.ife (.not (.v (.call true "_law_hand" .nil))) (.cons (.ret (.con (.bl false))) .nil) .nil) (.cons (.for_ (.nm 2) (.range1 (.con (.int 6))) (.cons (.ife (.not (.v (.call false "_law_asked" (.cons (.var 1) .nil)))) (.cons (.ret (.con (.bl false))) .nil) .nil) .nil)) (.cons (.ret (.con (.bl true))) .nil))))⟩
def t_law : Tab := ⟨topS 35, [Str.ofString "script", Str.ofString "tower", Str.ofString "lap"], d_law, false⟩
def tabs : List (String × Tab) := [("are_figures", t_are_figures), ("two_figures", t_two_figures), ("time_text", t_time_text), ("told_time", t_told_time), ("read_time", t_read_time), ("length_text", t_length_text), ("told_length", t_told_length), ("read_length", t_read_length), ("_law_tower", t__law_tower), ("_law_chime", t__law_chime), ("_law_of", t__law_of), ("_law_same", t__law_same), ("_law_two", t__law_two), ("_law_time", t__law_time), ("_law_length", t__law_length), ("_law_figures", t__law_figures), ("_law_due_time", t__law_due_time), ("_law_due_length", t__law_due_length), ("_law_heard", t__law_heard), ("_law_word", t__law_word), ("_law_bent", t__law_bent), ("_law_minute", t__law_minute), ("_law_asked", t__law_asked), ("_law_hand", t__law_hand), ("law", t_law)]
def consts : List (String × Kon) := [("DIGITS", .str "0123456789"), ("LONGEST", .int 9), ("HOUR", .int 60), ("DAY", .int 1440), ("HOURS", .int 24)]
def excs : List (String × List String) := [("BadLine", ["line", "word"])]
def Ψ : Bk := ⟨fun f => tabs.lookup f, fun c => consts.lookup c, fun c => excs.lookup c, true⟩
theorem c_are_figures : chkTab (tabF Ψ) t_are_figures = true := by decide +kernel
theorem c_two_figures : chkTab (tabF Ψ) t_two_figures = true := by decide +kernel
theorem c_time_text : chkTab (tabF Ψ) t_time_text = true := by decide +kernel
theorem c_told_time : chkTab (tabF Ψ) t_told_time = true := by decide +kernel
theorem c_read_time : chkTab (tabF Ψ) t_read_time = true := by decide +kernel
theorem c_length_text : chkTab (tabF Ψ) t_length_text = true := by decide +kernel
theorem c_told_length : chkTab (tabF Ψ) t_told_length = true := by decide +kernel
theorem c_read_length : chkTab (tabF Ψ) t_read_length = true := by decide +kernel
theorem c__law_tower : chkTab (tabF Ψ) t__law_tower = true := by decide +kernel
theorem c__law_chime : chkTab (tabF Ψ) t__law_chime = true := by decide +kernel
theorem c__law_of : chkTab (tabF Ψ) t__law_of = true := by decide +kernel
theorem c__law_same : chkTab (tabF Ψ) t__law_same = true := by decide +kernel
theorem c__law_two : chkTab (tabF Ψ) t__law_two = true := by decide +kernel
theorem c__law_time : chkTab (tabF Ψ) t__law_time = true := by decide +kernel
theorem c__law_length : chkTab (tabF Ψ) t__law_length = true := by decide +kernel
theorem c__law_figures : chkTab (tabF Ψ) t__law_figures = true := by decide +kernel
theorem c__law_due_time : chkTab (tabF Ψ) t__law_due_time = true := by decide +kernel
theorem c__law_due_length : chkTab (tabF Ψ) t__law_due_length = true := by decide +kernel
theorem c__law_heard : chkTab (tabF Ψ) t__law_heard = true := by decide +kernel
theorem c__law_word : chkTab (tabF Ψ) t__law_word = true := by decide +kernel
theorem c__law_bent : chkTab (tabF Ψ) t__law_bent = true := by decide +kernel
theorem c__law_minute : chkTab (tabF Ψ) t__law_minute = true := by decide +kernel
theorem c__law_asked : chkTab (tabF Ψ) t__law_asked = true := by decide +kernel
theorem c__law_hand : chkTab (tabF Ψ) t__law_hand = true := by decide +kernel
theorem c_law : chkTab (tabF Ψ) t_law = true := by decide +kernel
end K03

namespace Mi
open PySem PySem.Spec L2

/-! ### plain reasoning: a run that ends well -/
@[irreducible] def Wp {τ : Type} (r : R τ) (P : τ → Store → Prop) : Prop := match r with
  | .ok a S => P a S
  | _ => False
section
theorem wp_no {τ : Type} {P : τ → Store → Prop} (h : Wp .bad P) : False := by unfold Wp at h; exact h
theorem wp_i {τ : Type} {a : τ} {S : Store} {P : τ → Store → Prop} (h : P a S) : Wp (.ok a S) P := by unfold Wp; exact h
theorem wp_nox {τ : Type} {x : Ex} {S : Store} {P : τ → Store → Prop} (h : Wp (.exc x S) P) : False := by unfold Wp at h; exact h
variable {τ υ : Type} {P Q : τ → Store → Prop}
@[simp] theorem wp_ok (a : τ) (S : Store) : Wp (.ok a S) P = P a S := by unfold Wp; rfl
@[simp] theorem wp_bind (r : R υ) (f : υ → Store → R τ) : Wp (r.bind f) P = Wp r fun a S => Wp (f a S) P := by cases r <;> (unfold Wp; rfl)
theorem wp_when (c : Prop) [Decidable c] (r : R τ) : Wp (.when c r) P = (c ∧ Wp r P) := by
  unfold R.when
  by_cases h : c
  · rw [if_pos h]; simp [h]
  · rw [if_neg h]
    exact propext ⟨fun z => (wp_no z).elim, fun z => absurd z.1 h⟩
@[simp] theorem wp_some (a : υ) (f : υ → R τ) : Wp (.of (some a) f) P = Wp (f a) P := by rw [R.of_some]
theorem wp_ite (c : Prop) [Decidable c] (r r' : R τ) : Wp (if c then r else r') P = (if c then Wp r P else Wp r' P) := by split <;> rfl
theorem Wp.mono {r : R τ} (h : Wp r P) (i : ∀ a S, P a S → Q a S) : Wp r Q := by
  cases r with
  | ok a S => rw [wp_ok] at h ⊢; exact i a S h
  | exc x S => exact (wp_nox h).elim
  | bad => exact (wp_no h).elim
theorem Wp.ex {r : R τ} (h : Wp r P) : ∃ a S, r = .ok a S ∧ P a S := by
  cases r with
  | ok a S => rw [wp_ok] at h; exact ⟨a, S, rfl, h⟩
  | exc x S => exact (wp_nox h).elim
  | bad => exact (wp_no h).elim
theorem Wp.of {r : R τ} {a : τ} {S : Store} (e : r = .ok a S) (h : P a S) : Wp r P := by rw [e, wp_ok]; exact h
end
/-! from the left: what comes later is looked at later -/
theorem bind_lazy {τ υ : Type} {r r' : R τ} {f : τ → Store → R υ} (h : r = r') : r.bind f = r'.bind f := by rw [h]
theorem of_lazy {τ υ : Type} {o o' : Option τ} {f : τ → R υ} (h : o = o') : R.of o f = R.of o' f := by rw [h]
theorem when_lazy {τ : Type} {c : Prop} [Decidable c] {r : R τ} : R.when c r = R.when c r := rfl
theorem wp_lazy {τ : Type} {r r' : R τ} {P : τ → Store → Prop} (h : r = r') : Wp r P = Wp r' P := by rw [h]
theorem while_lazy {t : Mi.Env → Store → R Bool} {f : Mi.Env → Store → R F} {n : Nat} {γ γ' : Mi.Env} {S S' : Store} (h : γ = γ') (h' : S = S') : whileLoop t f n γ S = whileLoop t f n γ' S' := by rw [h, h']
theorem for_lazy {s s' : Src} {f : M → Mi.Env → Store → R F} {l l' : List M} {γ γ' : Mi.Env} {S S' : Store} (h0 : s = s') (h1 : l = l') (h : γ = γ') (h' : S = S') : forLoop s f l γ S = forLoop s' f l' γ' S' := by rw [h0, h1, h, h']
theorem comp_lazy {s s' : Src} {f : M → Store → R (Option M)} {l l' : List M} {S S' : Store} (h0 : s = s') (h1 : l = l') (h' : S = S') : compLoop s f l S = compLoop s' f l' S' := by rw [h0, h1, h']
theorem cmul_r {i j : Int} (h1 : -(2 ^ 64) < j) (h2 : j < 2 ^ 64) : CMulOk i j := .inl (.inr (by omega))
theorem cmul_l {i j : Int} (h1 : -(2 ^ 64) < i) (h2 : i < 2 ^ 64) : CMulOk i j := .inl (.inl (by omega))
theorem cdiv_s {i j : Int} (h1 : 0 < j) (h2 : j < 2 ^ 64) : CDivOk i j := ⟨h1, Nat.lt_trans (m := 2 ^ 64) (by omega) (by decide +kernel)⟩
/-- a def's body -/
theorem wp_fn {Φ : Tx} {k : Nat} {f : String} {ms : List M} {S : Store} {d : Fn} {P : M → Store → Prop} (hd : Φ f = some d) (hl : ms.length = d.ps.length)
    (h : Wp (exs (evalFn Φ k) d.body (ms.map some ++ List.replicate (d.ns - d.ps.length) none) S) fun fl S => Wp (fin fl S) P) : Wp (evalFn Φ (k + 1) f ms S) P := by
  simp only [evalFn, hd]
  rw [wp_when, wp_bind]
  exact ⟨hl, h⟩
/-- a call that can't change what it is given -/
theorem wp_pure {call : String → List M → Store → R M} {f : String} {ms as : List M} {S : Store} {r : M} {P : M → Store → Prop} (h1 : derefs S ms = some as) {Q : M → Store → Prop} (h2 : Wp (call f as []) Q) (h3 : ∀ m S', Q m S' → freeze S' m = some r) (h4 : P r S) : Wp (callM call true f ms S) P := by
  obtain ⟨m, S', e, q⟩ := h2.ex
  unfold callM
  rw [if_pos rfl, h1, wp_some, e]
  show Wp (.of (freeze S' m) fun r => .ok r S) P
  rw [h3 m S' q]
  exact wp_i h4
section
variable {call : String → List M → Store → R M} {al : Bool} {es : Cs} {e : C} {γ : Mi.Env} {S S' : Store} {ms : List M}
theorem ev_lrange {a b : Int} (h : evs call es γ S = .ok ms S') (hr : range12 ms = some (a, b)) (hk : RgOk' a b) : ev call (.lrange al es) γ S = mkL al (rangeL a b) S' := by
  simp only [ev]
  rw [h, R.bind_ok, hr]
  exact R.when_true hk _
theorem ev_trange {a b : Int} (h : evs call es γ S = .ok ms S') (hr : range12 ms = some (a, b)) (hk : RgOk' a b) : ev call (.trange es) γ S = .ok (.tup (rangeL a b)) S' := by
  simp only [ev]
  rw [h, R.bind_ok, hr]
  exact R.when_true hk _
theorem evI_range1 {b : Int} (h : ev call e γ S = .ok (.int b) S') (hk : RgOk' 0 b) : evI call (.range1 e) γ S = .ok ⟨rangeL 0 b, .tup [], []⟩ S' := by
  simp only [evI]
  rw [h, R.bind_ok]
  exact R.when_true hk _
theorem evI_val {m : M} (h : ev call e γ S = .ok m S') (hk : seqOf S' m = some ms) : evI call (.val e) γ S = .ok ⟨ms, m, ms⟩ S' := by
  simp only [evI]
  rw [h, R.bind_ok, hk]
  rfl
theorem ev_call {f : String} {pu : Bool} (h : evs call es γ S = .ok ms S') : ev call (.call pu f es) γ S = callM call pu f ms S' := by
  simp only [ev]
  rw [h]
  rfl
theorem rg_len (n : Nat) (h : n ≤ 1000000) : RgOk' 0 n := by
  unfold RgOk' big
  omega
theorem rangeN (n : Nat) : rangeL 0 n = (List.range n).map fun i : Nat => M.int (i : Int) := by
  unfold rangeL
  simp
theorem plain_ints {τ : Type} (f : τ → Int) (l : List τ) : M.plain.go (l.map fun i => M.int (f i)) = true := by
  induction l with
  | nil => rfl
  | cons x l ih => simp [M.plain.go, M.plain, ih]
end
/-- what a comprehension's turn gives, no store touched -/
def turnP (call : String → List M → Store → R M) (tg : Tg) (ifs : To) (e : C) (γ : Mi.Env) (S : Store) (x : M) : R (Option M) :=
  .of (bindT tg x γ) fun γ1 => ((evt call ifs γ1 S).bind fun b S => if b = true then (ev call e γ1 S).bind fun m S => .ok (some m) S else .ok none S).calm
/-- a comprehension whose turns are known -/
theorem wp_comp {s : Src} {f : M → Store → R (Option M)} {S : Store} (hok : s.ok S) (g : M → Option M) : ∀ (l : List M), (∀ x ∈ l, f x S = .ok (g x) S) → compLoop s f l S = .ok (l.filterMap g) S
  | [], h => by
    unfold compLoop
    rw [R.when_true hok]
    rfl
  | x :: l, h => by
    unfold compLoop
    rw [R.when_true hok, h x List.mem_cons_self, R.bind_ok, wp_comp hok g l fun y hy => h y (List.mem_cons_of_mem _ hy), R.bind_ok, List.filterMap_cons]
    cases g x <;> rfl
theorem ev_lcP {call : String → List M → Store → R M} {al : Bool} {tg : Tg} {it : It'} {ifs : To} {e : C} {own : List Nat} {γ : Mi.Env} {S S' : Store} {s : Src} (g : M → Option M) (h : evI call it γ S = .ok s S') (hl : s.items.length ≤ big) (hok : s.ok S')
    (ht : ∀ x ∈ s.items, turnP call tg ifs e (wipeE γ own) S' x = .ok (g x) S') : ev call (.lc al tg it ifs e own) γ S = mkL al (s.items.filterMap g) S' := by
  simp only [ev]
  rw [h, R.bind_ok, R.when_true hl, wp_comp hok g s.items ht]
  rfl
/-- .. by an invariant of the store -/
theorem wp_compI {s : Src} {f : M → Store → R (Option M)} {P : List M → Store → Prop} (I : Store → Prop) (hok : ∀ S, I S → s.ok S) (A : M → M → Prop) : ∀ (l : List M) (S : Store), I S → (∀ x ∈ l, ∀ S, I S → Wp (f x S) fun o S' => I S' ∧ ∃ y, o = some y ∧ A x y) →
    (∀ (r : List M) S', I S' → r.length = l.length → (∀ (i : Nat) (x y : M), l[i]? = some x → r[i]? = some y → A x y) → P r S') → Wp (compLoop s f l S) P
  | [], S, hS, h, q => by
    unfold compLoop
    rw [wp_when]
    exact ⟨hok S hS, wp_i (q [] S hS rfl fun i x y h => by simp at h)⟩
  | x :: l, S, hS, h, q => by
    unfold compLoop
    rw [wp_when, wp_bind]
    refine ⟨hok S hS, (h x List.mem_cons_self S hS).mono fun o S1 ⟨h1, y, e, ay⟩ => ?_⟩
    subst e
    rw [wp_bind]
    refine wp_compI I hok A l S1 h1 (fun z hz => h z (List.mem_cons_of_mem _ hz)) fun r S2 h2 hl hA => ?_
    rw [wp_ok]
    refine q _ _ h2 (by simp [hl]) fun i a b ha hb => ?_
    cases i with
    | zero => simp at ha hb; subst ha; subst hb; exact ay
    | succ i => exact hA i a b (by simpa using ha) (by simpa using hb)
/-- a for by its invariant; i: how many are done -/
theorem wp_for {s : Src} {f : M → Env → Store → R F} {P : F → Store → Prop} (I : Nat → Env → Store → Prop) (l : List M) (hok : ∀ i γ S, i ≤ l.length → I i γ S → s.ok S)
    (step : ∀ i x γ S, l[i]? = some x → I i γ S → Wp (f x γ S) fun fl S' => match fl with
      | .nx γ' => I (i + 1) γ' S'
      | .cnt γ' => I (i + 1) γ' S'
      | .brk γ' => P (.nx γ') S'
      | .ret m => P (.ret m) S') (done : ∀ γ S, I l.length γ S → P (.nx γ) S) :
    ∀ γ S, I 0 γ S → Wp (forLoop s f l γ S) P := by
  have key : ∀ (m : List M) (i : Nat), l.drop i = m → i ≤ l.length → ∀ γ S, I i γ S → Wp (forLoop s f m γ S) P := by
    intro m
    induction m with
    | nil =>
      intro i hd hi γ S h
      have hi' : i = l.length := by
        have := congrArg List.length hd
        simp at this; omega
      subst hi'
      unfold forLoop
      rw [wp_when]
      exact ⟨hok _ γ S hi h, wp_i (done γ S h)⟩
    | cons x m ih =>
      intro i hd hi γ S h
      have hlt : i < l.length := by
        have := congrArg List.length hd
        simp at this; omega
      have e := List.drop_eq_getElem_cons hlt
      rw [hd] at e
      obtain ⟨e1, e2⟩ := List.cons.inj e
      unfold forLoop
      rw [wp_when, wp_bind]
      refine ⟨hok i γ S hi h, (step i x γ S (by rw [e1]; simp [hlt]) h).mono fun fl S1 q => ?_⟩
      cases fl with
      | nx γ1 => exact ih (i + 1) e2.symm hlt γ1 S1 q
      | cnt γ1 => exact ih (i + 1) e2.symm hlt γ1 S1 q
      | brk γ1 => exact wp_i q
      | ret m => exact wp_i q
  exact fun γ S h => key l 0 rfl (Nat.zero_le _) γ S h
/-- a while by a measure -/
theorem wp_while {t : Env → Store → R Bool} {f : Env → Store → R F} {P : F → Store → Prop} (I : Env → Store → Prop) (μ : Env → Store → Nat)
    (step : ∀ γ S, I γ S → Wp (t γ S) fun b S1 => if b = true then Wp (f γ S1) fun fl S' => match fl with
      | .nx γ' => I γ' S' ∧ μ γ' S' < μ γ S
      | .cnt γ' => I γ' S' ∧ μ γ' S' < μ γ S
      | .brk γ' => P (.nx γ') S'
      | .ret m => P (.ret m) S' else P (.nx γ) S1) : ∀ (n : Nat) γ S, I γ S → μ γ S < n → Wp (whileLoop t f n γ S) P := by
  intro n
  induction n with
  | zero => intro γ S _ h; omega
  | succ n ih =>
    intro γ S h hm
    unfold whileLoop
    rw [wp_bind]
    refine (step γ S h).mono fun b S1 q => ?_
    cases b with
    | false =>
      rw [if_neg Bool.false_ne_true] at q ⊢
      exact wp_i q
    | true =>
      rw [if_pos rfl, wp_bind]
      have q' : Wp (f γ S1) _ := q
      refine q'.mono fun fl S2 q => ?_
      cases fl with
      | nx γ1 => exact ih γ1 S2 q.1 (by have := q.2; omega)
      | cnt γ1 => exact ih γ1 S2 q.1 (by have := q.2; omega)
      | brk γ1 => exact wp_i q
      | ret m => exact wp_i q
end Mi

namespace Mi
open PySem PySem.Spec L2

/-! ### the evaluator's equations, loops left closed -/
section
variable (call : String → List M → Store → R M) (γ : Mi.Env) (S : Store)
def varM (γ : Mi.Env) (i : Nat) (S : Store) : R M := match γ[i]? with
  | some (some m) => .ok m S
  | _ => .bad
def negM (m : M) (S : Store) : R M := match m with
  | .int i => .ok (.int (-i)) S
  | _ => .bad
def notM (m : M) (S : Store) : R M := match m with
  | .bl b => .ok (.bl !b) S
  | _ => .bad
/-- a bool that is asked for -/
def boolM (m : M) (S : Store) : R Bool := match m with
  | .bl b => .ok b S
  | _ => .bad
def intM (m : M) (S : Store) : R Int := match m with
  | .int b => .ok b S
  | _ => .bad
def lcRun (tg : Tg) (ifs : To) (e : C) (own : List Nat) (s : Src) : R (List M) := .when (s.items.length ≤ big) (compLoop s (fun x S => turnP call tg ifs e (wipeE γ own) S x) s.items S)
def sscRun (tg : Tg) (ifs : To) (e : C) (own : List Nat) (s : Src) : R (List M) := .when (s.items.length ≤ 4000) (compLoop s (fun x S => turnP call tg ifs e (wipeE γ own) S x) s.items S)
def anyRun (neg : Bool) (tg : Tg) (ifs : To) (e : C) (own : List Nat) (s : Src) : R M := .when (s.items.length ≤ big) (anyLoop s (fun x S => turnP call tg ifs e (wipeE γ own) S x) neg s.items S)
def rowP (tg : Tg) (it2 : It') (tg2 : Tg) (ifs : To) (e : C) (own own2 : List Nat) (S : Store) (x : M) : R (List M) := .of (bindT tg x (wipeE γ own)) fun γ1 =>
  (evI call it2 γ1 S).calm.bind fun s2 S => .when (s2.items.length ≤ 1000) (lcRun call γ1 S tg2 ifs e own2 s2)
def lc2Run (tg : Tg) (it2 : It') (tg2 : Tg) (ifs : To) (e : C) (own own2 : List Nat) (s : Src) : R (List M) := .when (s.items.length ≤ 1000) (rowLoop s (fun x S => rowP call γ tg it2 tg2 ifs e own own2 S x) s.items S)
def forRun (tg : Tg) (b : Sms) (s : Src) : R F := forLoop s (fun x γ S => .of (bindT tg x γ) fun γ1 => exs call b γ1 S) s.items γ S
def whileRun (t : T) (b : Sms) : R F := whileLoop (evT call t) (fun γ S => exs call b γ S) lim γ S
def nextM (f : F) (r : Sms) (S : Store) : R F := match f with
  | .nx γ1 => exs call r γ1 S
  | f => .ok f S
@[simp] theorem nextM_nx (γ1 : Mi.Env) (r : Sms) : nextM call (.nx γ1) r S = exs call r γ1 S := rfl
@[simp] theorem nextM_ret (m : M) (r : Sms) : nextM call (.ret m) r S = .ok (.ret m) S := rfl
@[simp] theorem nextM_brk (γ1 : Mi.Env) (r : Sms) : nextM call (.brk γ1) r S = .ok (.brk γ1) S := rfl
@[simp] theorem nextM_cnt (γ1 : Mi.Env) (r : Sms) : nextM call (.cnt γ1) r S = .ok (.cnt γ1) S := rfl
@[simp] theorem q_var (i : Nat) : ev call (.var i) γ S = varM γ i S := by simp only [ev]; rfl
@[simp] theorem varM_0 (m : M) (γ : Mi.Env) : varM (some m :: γ) 0 S = .ok m S := rfl
@[simp] theorem varM_s (m : Option M) (γ : Mi.Env) (i : Nat) : varM (m :: γ) (i + 1) S = varM γ i S := rfl
@[simp] theorem q_non : ev call (.con .non) γ S = .ok .non S := by simp only [ev]; rfl
@[simp] theorem q_cbl (b : Bool) : ev call (.con (.bl b)) γ S = .ok (.bl b) S := by simp only [ev]; rfl
@[simp] theorem q_cint (i : Int) : ev call (.con (.int i)) γ S = .ok (.int i) S := by simp only [ev]; rfl
@[simp] theorem q_cstr (s : String) : ev call (.con (.str s)) γ S = .ok (.str (Str.ofString s)) S := by simp only [ev]; rfl
@[simp] theorem q_tup (es : Cs) : ev call (.tup es) γ S = (evs call es γ S).bind fun ms S => .when (ms.length ≤ big) (.ok (.tup ms) S) := by simp only [ev]
@[simp] theorem q_lst (al : Bool) (es : Cs) : ev call (.lst al es) γ S = (evs call es γ S).bind fun ms S => .when (ms.length ≤ big) (mkL al ms S) := by simp only [ev]
@[simp] theorem q_bin (al : Bool) (o : Bop) (a b : C) : ev call (.bin al o a b) γ S = (ev call a γ S).bind fun x S => (ev call b γ S).bind fun y S => binop al o x y S := by simp only [ev]
@[simp] theorem q_neg (a : C) : ev call (.neg a) γ S = (ev call a γ S).bind fun x S => negM x S := by simp only [ev]; rfl
@[simp] theorem negM_int (i : Int) : negM (.int i) S = .ok (.int (-i)) S := rfl
@[simp] theorem q_cmp (o : Cop) (a b : C) : ev call (.cmp o a b) γ S = (ev call a γ S).bind fun x S => (ev call b γ S).bind fun y S => cmpop o x y S := by simp only [ev]
@[simp] theorem q_chain (o o' : Cop) (a b c : C) : ev call (.chain o o' a b c) γ S = (ev call a γ S).bind fun x S => (ev call b γ S).bind fun y S => (cmpop o x y S).bind fun r S => (boolM r S).bind fun r S => if r = true then (ev call c γ S).bind fun z S => cmpop o' y z S else .ok (.bl false) S := by
  simp only [ev]
  congr; funext x S; congr; funext y S; congr; funext r S
  cases r with
  | bl b => cases b <;> rfl
  | _ => rfl
@[simp] theorem q_and (a b : C) : ev call (.and a b) γ S = (ev call a γ S).bind fun x S => (boolM x S).bind fun r S => if r = true then ev call b γ S else .ok (.bl false) S := by
  simp only [ev]
  congr; funext r S
  cases r with
  | bl b => cases b <;> rfl
  | _ => rfl
@[simp] theorem q_or (a b : C) : ev call (.or a b) γ S = (ev call a γ S).bind fun x S => (boolM x S).bind fun r S => if r = true then .ok (.bl true) S else ev call b γ S := by
  simp only [ev]
  congr; funext r S
  cases r with
  | bl b => cases b <;> rfl
  | _ => rfl
@[simp] theorem boolM_bl (b : Bool) : boolM (.bl b) S = .ok b S := rfl
@[simp] theorem intM_int (b : Int) : intM (.int b) S = .ok b S := rfl
@[simp] theorem q_one (a : C) : ev call (.one a) γ S = ev call a γ S := by simp only [ev]
@[simp] theorem q_not (a : C) : ev call (.not a) γ S = (ev call a γ S).bind fun x S => notM x S := by simp only [ev]; rfl
@[simp] theorem notM_bl (b : Bool) : notM (.bl b) S = .ok (.bl !b) S := rfl
@[simp] theorem q_ife (t : T) (a b : C) : ev call (.ife t a b) γ S = (evT call t γ S).bind fun c S => if c = true then ev call a γ S else ev call b γ S := by simp only [ev]
@[simp] theorem q_ix (a i : C) : ev call (.ix a i) γ S = (ev call a γ S).bind fun x S => (ev call i γ S).bind fun y S => ixop x y S := by simp only [ev]
@[simp] theorem q_sl (al : Bool) (a : C) (lo hi : Co) : ev call (.sl al a lo hi) γ S = (ev call a γ S).bind fun x S => (evo call lo γ S).bind fun l S => (evo call hi γ S).bind fun h S => slop al x l h S := by simp only [ev]
@[simp] theorem q_rev (al : Bool) (a : C) : ev call (.rev al a) γ S = (ev call a γ S).bind fun x S => revop al x S := by simp only [ev]
@[simp] theorem revop_tup (al : Bool) (ms : List M) : revop al (.tup ms) S = .ok (.tup ms.reverse) S := rfl
@[simp] theorem revop_ref (al : Bool) (n : Nat) : revop al (.ref n) S = .of (lstOf S (.ref n)) fun ms => mkL al ms.reverse S := rfl
@[simp] theorem revop_lst (al : Bool) (ms : List M) : revop al (.lst ms) S = mkL al ms.reverse S := rfl
@[simp] theorem q_call (pu : Bool) (f : String) (es : Cs) : ev call (.call pu f es) γ S = (evs call es γ S).bind fun ms S => callM call pu f ms S := by simp only [ev]
@[simp] theorem q_callk (pu : Bool) (f : String) (es : Cs) (qs : List Nat) (kes : Cs) : ev call (.callk pu f es qs kes) γ S = (evs call es γ S).bind fun ms S => (evs call kes γ S).bind fun ns S => .when (ms.length = es.len ∧ ns.length = qs.length) (callM call pu f (place qs ms ns) S) := by simp only [ev]
@[simp] theorem q_bi (b : Bi) (es : Cs) : ev call (.bi b es) γ S = (evs call es γ S).bind fun ms S => biop b ms S := by simp only [ev]
@[simp] theorem q_isi (a : C) (ts : List String) : ev call (.isi a ts) γ S = (ev call a γ S).bind fun x S => isiop x ts S := by simp only [ev]
@[simp] theorem q_lrange (al : Bool) (es : Cs) : ev call (.lrange al es) γ S = (evs call es γ S).bind fun ms S => .of (range12 ms) fun p => .when (RgOk' p.1 p.2) (mkL al (rangeL p.1 p.2) S) := by simp only [ev]
@[simp] theorem q_trange (es : Cs) : ev call (.trange es) γ S = (evs call es γ S).bind fun ms S => .of (range12 ms) fun p => .when (RgOk' p.1 p.2) (.ok (.tup (rangeL p.1 p.2)) S) := by simp only [ev]
@[simp] theorem q_meth (m : Me) (o : C) (es : Cs) : ev call (.meth m o es) γ S = (ev call o γ S).bind fun x S => .of (lstOf S x) fun _ => (evs call es γ S).bind fun ms S => meop m x ms S := by simp only [ev]
@[simp] theorem q_lc (al : Bool) (tg : Tg) (it : It') (ifs : To) (e : C) (own : List Nat) : ev call (.lc al tg it ifs e own) γ S = (evI call it γ S).bind fun s S => (lcRun call γ S tg ifs e own s).bind fun ms S => mkL al ms S := by
  simp only [ev]
  congr; funext s S
  unfold lcRun R.when
  split <;> rfl
@[simp] theorem q_lc2 (al : Bool) (tg : Tg) (it : It') (tg2 : Tg) (it2 : It') (ifs : To) (e : C) (own own2 : List Nat) : ev call (.lc2 al tg it tg2 it2 ifs e own own2) γ S = (evI call it γ S).bind fun s S => (lc2Run call γ S tg it2 tg2 ifs e own own2 s).bind fun ms S => mkL al ms S := by
  simp only [ev]
  congr; funext s S
  have hf : (fun x S => R.of (bindT tg x (wipeE γ own)) fun γ1 => (evI call it2 γ1 S).calm.bind fun s2 S => R.when (s2.items.length ≤ 1000) (compLoop s2 (fun x S => .of (bindT tg2 x (wipeE γ1 own2)) fun γ2 =>
      ((evt call ifs γ2 S).bind fun b S => if b = true then (ev call e γ2 S).bind fun m S => .ok (some m) S else .ok none S).calm) s2.items S)) = fun x S => rowP call γ tg it2 tg2 ifs e own own2 S x := by
    funext x S
    unfold rowP
    congr; funext γ1; congr; funext s2 S
    by_cases h : s2.items.length ≤ 1000
    · rw [R.when_true h, R.when_true h]
      unfold lcRun
      rw [R.when_true (show s2.items.length ≤ big by unfold big; omega)]
      rfl
    · rw [show ∀ r : R (List M), R.when (s2.items.length ≤ 1000) r = .bad from fun r => if_neg h, show ∀ r : R (List M), R.when (s2.items.length ≤ 1000) r = .bad from fun r => if_neg h]
  rw [hf]
  unfold lc2Run R.when
  split <;> rfl
@[simp] theorem q_swp (o i p j a b : C) : ex call (.swp o i p j a b) γ S = (ev call a γ S).bind fun u S => (ev call b γ S).bind fun w S => (ev call o γ S).bind fun x S => (ev call i γ S).bind fun y S => (setiop x y u S).bind fun _ S =>
      (ev call p γ S).bind fun x S => (ev call j γ S).bind fun y S => (setiop x y w S).bind fun _ S => .ok (.nx γ) S := by simp only [ex]
@[simp] theorem q_ssc (al : Bool) (tg : Tg) (it : It') (ifs : To) (e : C) (own : List Nat) : ev call (.ssc al tg it ifs e own) γ S = (evI call it γ S).bind fun s S => (sscRun call γ S tg ifs e own s).bind fun ms S => .of (intsOf ms) fun is => .when ((dedup is).length < 64) (mkL al ((isort (dedup is)).map M.int) S) := by
  simp only [ev]
  congr; funext s S
  unfold sscRun R.when
  split <;> rfl
@[simp] theorem q_anyg (neg : Bool) (tg : Tg) (it : It') (ifs : To) (e : C) (own : List Nat) : ev call (.anyg neg tg it ifs e own) γ S = (evI call it γ S).bind fun s S => anyRun call γ S neg tg ifs e own s := by
  simp only [ev]
  rfl
@[simp] theorem q_dct (ks : List String) (es : Cs) : ev call (.dct ks es) γ S = (evs call es γ S).bind fun ms S => .when (ks.length = ms.length ∧ ms.length ≤ 15) (.ok (.ref S.length) (S ++ [.dic (mergeM ((ks.map fun k => (.inr (Str.ofString k) : Key)).zip ms))])) := by simp only [ev]
@[simp] theorem q_cstS (s t : String) : ev call (.cstS s t) γ S = .ok (.str (Str.ofString t)) S := by simp only [ev]
@[simp] theorem q_six (a i : C) : ev call (.six a i) γ S = (ev call a γ S).bind fun x S => (ev call i γ S).bind fun y S => sixop x y S := by simp only [ev]
@[simp] theorem q_ssl (a : C) (lo hi : Co) : ev call (.ssl a lo hi) γ S = (ev call a γ S).bind fun x S => (evo call lo γ S).bind fun l S => (evo call hi γ S).bind fun h S => sslop x l h S := by simp only [ev]
@[simp] theorem q_sin (neg : Bool) (a b : C) : ev call (.sin neg a b) γ S = (ev call a γ S).bind fun x S => (ev call b γ S).bind fun y S => sinop neg x y S := by simp only [ev]
@[simp] theorem q_deq (neg : Bool) (a b : C) : ev call (.deq neg a b) γ S = (ev call a γ S).bind fun x S => (ev call b γ S).bind fun y S => deqop neg x y S := by simp only [ev]
@[simp] theorem q_join (a b : C) : ev call (.join a b) γ S = (ev call a γ S).bind fun x S => .of (strOf x) fun z => (ev call b γ S).bind fun y S => joinop z y S := by simp only [ev]
@[simp] theorem q_split (al : Bool) (a b : C) : ev call (.split al a b) γ S = (ev call a γ S).bind fun x S => .of (strOf x) fun z => (ev call b γ S).bind fun y S => splitop al z y S := by simp only [ev]
def sgnM (m : M) (S : Store) : R Src := match m with
  | .str z => .when (z.length ≤ big) (.ok ⟨signs z, .tup [], []⟩ S)
  | _ => .bad
@[simp] theorem q_Isgn (a : C) : evI call (.sgn a) γ S = (ev call a γ S).bind fun x S => sgnM x S := by
  simp only [evI]
  rfl
@[simp] theorem q_cst (s : String) (i : Int) : ev call (.cst s i) γ S = .ok (.int i) S := by simp only [ev]
@[simp] theorem q_chain3 (o o' o'' : Cop) (a b c d : C) : ev call (.chain3 o o' o'' a b c d) γ S = (ev call a γ S).bind fun x S => (ev call b γ S).bind fun y S => (cmpop o x y S).bind fun r S => (boolM r S).bind fun r S =>
    if r = true then (ev call c γ S).bind fun z S => (cmpop o' y z S).bind fun r S => (boolM r S).bind fun r S => if r = true then (ev call d γ S).bind fun w S => cmpop o'' z w S else .ok (.bl false) S else .ok (.bl false) S := by
  simp only [ev]
  congr; funext x S; congr; funext y S; congr; funext r S
  cases r with
  | bl b =>
    cases b with
    | false => rfl
    | true =>
      show R.bind _ _ = R.bind _ _
      congr; funext z S; congr; funext r S
      cases r with
      | bl b => cases b <;> rfl
      | _ => rfl
  | _ => rfl
@[simp] theorem q_raise (c : String) (fs : List String) (es : Cs) : ex call (.raise c fs es) γ S = (evs call es γ S).bind fun ms S => .when (ms.length = fs.length) (.exc ⟨c, fs.zip ms⟩ S) := by simp only [ex]
@[simp] theorem q_try (ks : List String) (b : Sms) (hs : List Cz) : ex call (.try_ ks b hs) γ S = (exs call b γ S).caught fun x S => .when (x.cls ∈ ks) (handle hs x S) := by simp only [ex]
@[simp] theorem q_Tand (a b : T) : evT call (.and a b) γ S = (evT call a γ S).bind fun c S => if c = true then evT call b γ S else .ok false S := by simp only [evT]
@[simp] theorem q_Tor (a b : T) : evT call (.or a b) γ S = (evT call a γ S).bind fun c S => if c = true then .ok true S else evT call b γ S := by simp only [evT]
@[simp] theorem q_Tone (a : T) : evT call (.one a) γ S = evT call a γ S := by simp only [evT]
@[simp] theorem q_Tnot (a : T) : evT call (.not a) γ S = (evT call a γ S).bind fun c S => .ok (!c) S := by simp only [evT]
@[simp] theorem q_Tv (a : C) : evT call (.v a) γ S = (ev call a γ S).bind fun m S => .of (truth S m) fun b => .ok b S := by simp only [evT]
@[simp] theorem q_nil : evs call .nil γ S = .ok [] S := by simp only [evs]
@[simp] theorem q_cons (a : C) (r : Cs) : evs call (.cons a r) γ S = (ev call a γ S).bind fun x S => (evs call r γ S).bind fun xs S => .ok (x :: xs) S := by simp only [evs]
@[simp] theorem q_ono : evo call .no γ S = .ok none S := by simp only [evo]
@[simp] theorem q_oso (a : C) : evo call (.so a) γ S = (ev call a γ S).bind fun x S => (intM x S).bind fun i S => .ok (some i) S := by
  simp only [evo]
  congr; funext r S
  cases r <;> rfl
@[simp] theorem q_tno : evt call .no γ S = .ok true S := by simp only [evt]
@[simp] theorem q_tso (a : T) : evt call (.so a) γ S = evT call a γ S := by simp only [evt]
@[simp] theorem q_Ival (a : C) : evI call (.val a) γ S = (ev call a γ S).bind fun x S => .of (seqOf S x) fun ms => .ok ⟨ms, x, ms⟩ S := by simp only [evI]
@[simp] theorem q_Ir1 (a : C) : evI call (.range1 a) γ S = (ev call a γ S).bind fun x S => (intM x S).bind fun j S => .when (RgOk' 0 j) (.ok ⟨rangeL 0 j, .tup [], []⟩ S) := by
  simp only [evI]
  congr; funext r S
  cases r <;> rfl
@[simp] theorem q_Ien (a : C) : evI call (.enum a) γ S = (ev call a γ S).bind fun x S => .of (seqOf S x) fun ms => .ok ⟨(List.range ms.length).map fun i => .tup [.int (i : Nat), ms.getD i .non], x, ms⟩ S := by simp only [evI]
@[simp] theorem q_set (i : Nat) (e : C) : ex call (.set i e) γ S = (ev call e γ S).bind fun m S => .ok (.nx (γ.set i (some m))) S := by simp only [ex]
@[simp] theorem q_unp (l : List Nat) (e : C) : ex call (.unp l e) γ S = (ev call e γ S).bind fun m S => .of (bindT (.tu l) m γ) fun γ1 => .ok (.nx γ1) S := by simp only [ex]
@[simp] theorem q_par (l : List Nat) (es : Cs) : ex call (.par l es) γ S = (evs call es γ S).bind fun ms S => .when (ms.length = l.length) (.ok (.nx (bindT.go l ms γ)) S) := by simp only [ex]
@[simp] theorem q_seti (o i e : C) : ex call (.seti o i e) γ S = (ev call e γ S).bind fun m S => (ev call o γ S).bind fun x S => (ev call i γ S).bind fun y S => (setiop x y m S).bind fun _ S => .ok (.nx γ) S := by simp only [ex]
@[simp] theorem q_augi (op : Bop) (a i e : C) : ex call (.augi op a i e) γ S = (ev call a γ S).bind fun x S => (ev call i γ S).bind fun y S => (ixlop x y S).bind fun z S => (ev call e γ S).bind fun u S => (augop op z u S).bind fun r S => (setiop x y r S).bind fun _ S => .ok (.nx γ) S := by simp only [ex]
@[simp] theorem q_aug (op : Bop) (i : Nat) (e : C) : ex call (.aug op i e) γ S = (varM γ i S).bind fun z S => (ev call e γ S).bind fun u S => (augop op z u S).bind fun r S => .ok (.nx (γ.set i (some r))) S := by
  simp only [ex]
  unfold varM
  cases γ[i]? with
  | none => rfl
  | some o => cases o <;> rfl
@[simp] theorem q_exp (e : C) : ex call (.exp e) γ S = (ev call e γ S).bind fun _ S => .ok (.nx γ) S := by simp only [ex]
@[simp] theorem q_ret (e : C) : ex call (.ret e) γ S = (ev call e γ S).bind fun m S => .ok (.ret m) S := by simp only [ex]
@[simp] theorem q_retN : ex call .retN γ S = .ok (.ret .non) S := by simp only [ex]
@[simp] theorem q_ifS (t : T) (a b : Sms) : ex call (.ife t a b) γ S = (evT call t γ S).bind fun c S => if c = true then exs call a γ S else exs call b γ S := by simp only [ex]
@[simp] theorem q_for (tg : Tg) (it : It') (b : Sms) : ex call (.for_ tg it b) γ S = (evI call it γ S).bind fun s S => forRun call γ S tg b s := by simp only [ex, forRun]
@[simp] theorem q_while (t : T) (b : Sms) : ex call (.while_ t b) γ S = whileRun call γ S t b := by simp only [ex, whileRun]
@[simp] theorem q_brk : ex call .brk γ S = .ok (.brk γ) S := by simp only [ex]
@[simp] theorem q_cnt : ex call .cnt γ S = .ok (.cnt γ) S := by simp only [ex]
@[simp] theorem q_pass : ex call .pass γ S = .ok (.nx γ) S := by simp only [ex]
@[simp] theorem q_snil : exs call .nil γ S = .ok (.nx γ) S := by simp only [exs]
@[simp] theorem q_scons (a : Sm) (r : Sms) : exs call (.cons a r) γ S = (ex call a γ S).bind fun f S => nextM call f r S := by
  simp only [exs]
  rfl
@[simp] theorem fin_ret (m : M) : fin (.ret m) S = .ok m S := rfl
@[simp] theorem fin_nx : fin (.nx γ) S = .ok .non S := rfl
end
end Mi

namespace Mi
open PySem PySem.Spec L2
/-! ### calls, plain values (shared by the laws) -/
theorem pure_call {call : String → List M → Store → R M} {f : String} {ms : List M} {S S' : Store} {r m : M} (h1 : derefs S ms = some ms) (h2 : call f ms [] = .ok m S') (h3 : freeze S' m = some r) : callM call true f ms S = .ok r S := by
  unfold callM
  rw [if_pos rfl, h1, R.of_some, h2]
  show R.of (freeze S' m) (fun r => .ok r S) = _
  rw [h3]; rfl
theorem pure_exc {call : String → List M → Store → R M} {f : String} {ms : List M} {S S' : Store} {x : Ex} (h1 : derefs S ms = some ms) (h2 : call f ms [] = .exc x S') (h3 : (x.fs.all fun p => p.2.plain) = true) : callM call true f ms S = .exc x S := by
  unfold callM
  rw [if_pos rfl, h1, R.of_some, h2]
  show (if _ then _ else _) = _
  rw [if_pos h3]
@[simp] theorem callM_false (call : String → List M → Store → R M) (f : String) (ms : List M) (S : Store) : callM call false f ms S = call f ms S := by simp [callM]
@[simp] theorem wp_calm {τ : Type} (r : R τ) (P : τ → Store → Prop) : Wp r.calm P = Wp r P := by
  cases r with
  | exc x S => exact propext ⟨fun z => (wp_no z).elim, fun z => (wp_nox z).elim⟩
  | _ => rfl
mutual
theorem noref_plain : ∀ m : M, M.plain m = true → M.noref m = true
  | .non, _ => rfl
  | .bl _, _ => rfl
  | .int _, _ => rfl
  | .str _, _ => rfl
  | .tup ms, h => by simp only [M.plain] at h; simp only [M.noref]; exact noref_plains ms h
  | .lst ms, h => by simp [M.plain] at h
  | .scr ms, h => by simp [M.plain] at h
  | .ref ms, h => by simp [M.plain] at h
theorem noref_plains : ∀ ms : List M, M.plain.go ms = true → M.noref.go ms = true
  | [], _ => rfl
  | m :: ms, h => by
    simp only [M.plain.go, Bool.and_eq_true] at h
    simp only [M.noref.go, Bool.and_eq_true]
    exact ⟨noref_plain m h.1, noref_plains ms h.2⟩
end
theorem de_plain (S : Store) (m : M) (h : M.plain m = true) : derefA S m = some m := by
  have hn := noref_plain m h
  cases m <;> simp_all [derefA, M.plain]
theorem de_plains (S : Store) : ∀ ms : List M, M.plain.go ms = true → derefs S ms = some ms
  | [], _ => rfl
  | m :: ms, h => by
    simp only [M.plain.go, Bool.and_eq_true] at h
    simp [derefs, de_plain S m h.1, de_plains S ms h.2]
theorem fz_plain (S : Store) (m : M) (h : M.plain m = true) : freeze S m = some m := by
  cases m <;> simp_all [freeze, M.plain]
theorem plain_app : ∀ a b : List M, M.plain.go (a ++ b) = (M.plain.go a && M.plain.go b)
  | [], b => by simp [M.plain.go]
  | m :: a, b => by simp [M.plain.go, plain_app a b, Bool.and_assoc]
/-- a pure call of plain values -/
theorem pcall {call : String → List M → Store → R M} {f : String} {ms : List M} {S S' : Store} {m : M} (h1 : M.plain.go ms = true) (h2 : call f ms [] = .ok m S') (h3 : M.plain m = true) : callM call true f ms S = .ok m S :=
  pure_call (de_plains S ms h1) h2 (fz_plain S' m h3)
theorem pexc {call : String → List M → Store → R M} {f : String} {ms : List M} {S S' : Store} {x : Ex} (h1 : M.plain.go ms = true) (h2 : call f ms [] = .exc x S') (h3 : (x.fs.all fun p => p.2.plain) = true) : callM call true f ms S = .exc x S :=
  pure_exc (de_plains S ms h1) h2 h3
theorem a20 (a b : M) : atI [a, b] 0 = some a := rfl
theorem a21 (a b : M) : atI [a, b] 1 = some b := rfl
theorem a30 (a b c : M) : atI [a, b, c] 0 = some a := rfl
theorem a31 (a b c : M) : atI [a, b, c] 1 = some b := rfl
theorem a32 (a b c : M) : atI [a, b, c] 2 = some c := rfl
theorem a40 (a b c d : M) : atI [a, b, c, d] 0 = some a := rfl
theorem a41 (a b c d : M) : atI [a, b, c, d] 1 = some b := rfl
theorem a42 (a b c d : M) : atI [a, b, c, d] 2 = some c := rfl
theorem a43 (a b c d : M) : atI [a, b, c, d] 3 = some d := rfl
theorem atI_last {ms : List M} {m : M} : atI (ms ++ [m]) (-1) = some m := by
  unfold atI ixN
  have e : (-1 + ((ms ++ [m]).length : Int)).toNat = ms.length := by simp; omega
  rw [if_neg (by omega), if_pos (by simp; omega)]
  show (ms ++ [m])[(-1 + ((ms ++ [m]).length : Int)).toNat]? = _
  rw [e]
  simp
theorem beq_nat (i j : Nat) : ((i : Int) == (j : Int)) = decide (i = j) := by
  by_cases h : i = j
  · simp [h]
  · rw [decide_eq_false h, beq_eq_false_iff_ne]; omega
theorem cut_mem {xs : List M} {lo hi : Option Int} : (∀ x ∈ cutM xs lo hi, x ∈ xs) ∧ (cutM xs lo hi).length ≤ xs.length := by
  unfold cutM
  refine ⟨fun x h => List.mem_of_mem_drop (List.mem_of_mem_take h), ?_⟩
  rw [List.length_take, List.length_drop]
  omega
theorem ints_map {τ : Type} (f : τ → Int) (l : List τ) : intsOf (l.map fun x => M.int (f x)) = some (l.map f) := by
  induction l with
  | nil => rfl
  | cons a l ih => simp [intsOf, ih]
/-- a comprehension over known items, all kept -/
theorem lc_all {call : String → List M → Store → R M} {γ : Mi.Env} {S : Store} {tg : Tg} {ifs : To} {e : C} {own : List Nat} {s : Src} {τ : Type} (l : List τ) (f : τ → M) (g : τ → M) (hs : s.items = l.map f) (hl : l.length ≤ big) (hok : s.ok S)
    (ht : ∀ x ∈ l, turnP call tg ifs e (wipeE γ own) S (f x) = .ok (some (g x)) S) : lcRun call γ S tg ifs e own s = .ok (l.map g) S := by
  unfold lcRun
  rw [R.when_true (by rw [hs, List.length_map]; exact hl), hs]
  clear hs hl
  induction l with
  | nil => simp only [List.map_nil]; unfold compLoop; rw [R.when_true hok]
  | cons a l ih =>
    rw [List.map_cons, List.map_cons]
    unfold compLoop
    rw [R.when_true hok, ht a List.mem_cons_self, R.bind_ok, ih fun x hx => ht x (List.mem_cons_of_mem _ hx)]
    rfl
/-- .. some kept -/
theorem lc_some {call : String → List M → Store → R M} {γ : Mi.Env} {S : Store} {tg : Tg} {ifs : To} {e : C} {own : List Nat} {s : Src} {τ : Type} (l : List τ) (f : τ → M) (p : τ → Bool) (g : τ → M) (hs : s.items = l.map f) (hl : l.length ≤ big) (hok : s.ok S)
    (ht : ∀ x ∈ l, turnP call tg ifs e (wipeE γ own) S (f x) = .ok (if p x = true then some (g x) else none) S) : lcRun call γ S tg ifs e own s = .ok ((l.filter p).map g) S := by
  unfold lcRun
  rw [R.when_true (by rw [hs, List.length_map]; exact hl), hs]
  clear hs hl
  induction l with
  | nil => simp only [List.map_nil, List.filter_nil]; unfold compLoop; rw [R.when_true hok]
  | cons a l ih =>
    rw [List.map_cons, List.filter_cons]
    unfold compLoop
    rw [R.when_true hok, ht a List.mem_cons_self, R.bind_ok, ih fun x hx => ht x (List.mem_cons_of_mem _ hx)]
    by_cases h : p a = true
    · rw [if_pos h, if_pos h]; rfl
    · rw [if_neg h, if_neg h]; rfl
/-- rows of two fors -/
theorem lc2_rows {call : String → List M → Store → R M} {γ : Mi.Env} {S : Store} {tg tg2 : Tg} {it2 : It'} {ifs : To} {e : C} {own own2 : List Nat} {s : Src} {τ : Type} (l : List τ) (f : τ → M) (g : τ → List M) (hs : s.items = l.map f) (hl : l.length ≤ 1000) (hok : s.ok S)
    (ht : ∀ x ∈ l, rowP call γ tg it2 tg2 ifs e own own2 S (f x) = .ok (g x) S) : lc2Run call γ S tg it2 tg2 ifs e own own2 s = .ok (l.flatMap g) S := by
  unfold lc2Run
  rw [R.when_true (by rw [hs, List.length_map]; exact hl), hs]
  clear hs hl
  induction l with
  | nil => simp only [List.map_nil]; unfold rowLoop; rw [R.when_true hok]; rfl
  | cons a l ih =>
    rw [List.map_cons, List.flatMap_cons]
    unfold rowLoop
    rw [R.when_true hok, ht a List.mem_cons_self, R.bind_ok, ih fun x hx => ht x (List.mem_cons_of_mem _ hx)]
    rfl
/-- any, all of known elements -/
theorem any_pure {call : String → List M → Store → R M} {γ : Mi.Env} {S : Store} {neg : Bool} {tg : Tg} {ifs : To} {e : C} {own : List Nat} {s : Src} {τ : Type} (l : List τ) (f : τ → M) (p : τ → Bool) (hs : s.items = l.map f) (hl : l.length ≤ big) (hok : s.ok S)
    (ht : ∀ x ∈ l, turnP call tg ifs e (wipeE γ own) S (f x) = .ok (some (.bl (p x))) S) : anyRun call γ S neg tg ifs e own s = .ok (.bl (if neg = true then l.all p else l.any p)) S := by
  unfold anyRun
  rw [R.when_true (by rw [hs, List.length_map]; exact hl), hs]
  clear hs hl
  induction l with
  | nil =>
    simp only [List.map_nil]
    unfold anyLoop
    rw [R.when_true hok]
    cases neg <;> rfl
  | cons a l ih =>
    rw [List.map_cons]
    unfold anyLoop
    rw [R.when_true hok, ht a List.mem_cons_self, R.bind_ok]
    dsimp only
    rw [ih fun x hx => ht x (List.mem_cons_of_mem _ hx), List.all_cons, List.any_cons]
    cases hp : p a <;> cases neg <;> simp
def okTrue (r : R M) : Bool := match r with
  | .ok (.bl true) _ => true
  | _ => false
theorem okTrue_of {r : R M} (h : okTrue r = true) : ∃ S, r = .ok (.bl true) S := by
  unfold okTrue at h
  split at h
  · exact ⟨_, rfl⟩
  · cases h
theorem mem_range {n : Int} {i : Nat} {x : M} (h0 : 0 ≤ n) (h : (rangeL 0 n)[i]? = some x) : x = .int (i : Int) ∧ (i : Int) < n := by
  unfold rangeL at h
  rw [List.getElem?_map] at h
  obtain ⟨j, hj, rfl⟩ := Option.map_eq_some_iff.mp h
  obtain ⟨hl, e⟩ := List.getElem?_eq_some_iff.mp hj
  simp at hl e
  subst e
  exact ⟨by simp, by omega⟩
theorem len_range (n : Nat) : (rangeL 0 (n : Int)).length = n := by rw [rangeN]; simp
theorem lookup_mem {l : List (String × Tab)} {f : String} {t : Tab} (h : l.lookup f = some t) : (f, t) ∈ l := by
  induction l with
  | nil => cases h
  | cons a l ih =>
    obtain ⟨g, u⟩ := a
    rw [List.lookup_cons] at h
    split at h
    · rename_i e
      cases h
      rw [eq_of_beq e]
      exact List.mem_cons_self
    · exact List.mem_cons_of_mem _ (ih h)
theorem lookup_memS {τ : Type} {l : List (String × τ)} {f : String} {t : τ} (h : l.lookup f = some t) : (f, t) ∈ l := by
  induction l with
  | nil => cases h
  | cons a l ih =>
    obtain ⟨g, u⟩ := a
    rw [List.lookup_cons] at h
    split at h
    · rename_i e
      cases h
      rw [eq_of_beq e]
      exact List.mem_cons_self
    · exact List.mem_cons_of_mem _ (ih h)
/-! ### sizes of plain values -/
mutual
def cnt : M → Nat
  | .tup ms => 1 + cnts ms
  | _ => 1
def cnts : List M → Nat
  | [] => 0
  | m :: r => cnt m + cnts r
end
theorem cnt_pos (m : M) : 1 ≤ cnt m := by cases m <;> simp [cnt] <;> omega
theorem cnts_len : ∀ ms : List M, ms.length ≤ cnts ms
  | [] => Nat.le_refl _
  | m :: ms => by
    have := cnts_len ms
    have := cnt_pos m
    simp [cnts]; omega
theorem cnts_app : ∀ a b : List M, cnts (a ++ b) = cnts a + cnts b
  | [], b => by simp [cnts]
  | m :: a, b => by simp [cnts, cnts_app a b]; omega
theorem eqM_self : ∀ {x : M}, (∀ ms, x ≠ .tup ms) → M.plain x = true → eqM x x = some true
  | .non, _, _ => rfl
  | .bl b, _, _ => by simp [eqM]
  | .int i, _, _ => by simp [eqM]
  | .str s, _, _ => by simp [eqM]
  | .tup ms, h, _ => absurd rfl (h ms)
  | .lst ms, _, h => by simp [M.plain] at h
  | .scr ms, _, h => by simp [M.plain] at h
  | .ref ms, _, h => by simp [M.plain] at h
def same2 (x : M) : M := .tup [x, x]
def pickS (ms : List M) : M → Option M
  | .int j => (ms[j.toNat]?).map same2
  | _ => none
theorem same2_range (ms : List M) : (rangeL 0 (ms.length : Int)).filterMap (pickS ms) = ms.map same2 := by
  rw [rangeN, List.filterMap_map]
  have g : ∀ (l : List M) (n : Nat) (f : Nat → Option M), (∀ i, i < l.length → f (n + i) = (l[i]?).map same2) → (List.range' n l.length).filterMap f = l.map same2 := by
    intro l
    induction l with
    | nil => intro n f h; rfl
    | cons a l ih =>
      intro n f h
      rw [List.length_cons, List.range'_succ, List.filterMap_cons, show f n = some (same2 a) from by simpa using h 0 (by simp)]
      rw [List.map_cons, ih (n + 1) f fun i hi => by
        have := h (i + 1) (by simp; omega)
        rw [show n + (i + 1) = n + 1 + i by omega] at this
        simpa using this]
  rw [List.range_eq_range']
  exact g ms 0 _ fun i hi => by simp [pickS]
end Mi

namespace Pg
open PySem PySem.Spec L2 Mi
/-! ### plain data shared by the laws -/
/-- the text bears this def -/
class Has (Φ : Tx) (f : String) (d : Fn) : Prop where
  ex : ∃ kw, Φ f = some ⟨d.ps, kw, d.ns, d.body⟩
theorem has_eq {Φ : Tx} {f : String} (d : Fn) [h : Has Φ f d] (k : Nat) (ms : List M) (S : Store) : evalFn Φ (k + 1) f ms S = .when (ms.length = d.ps.length) ((exs (evalFn Φ k) d.body (ms.map some ++ List.replicate (d.ns - d.ps.length) none) S).bind fin) := by
  obtain ⟨kw, e⟩ := h.ex
  simp only [evalFn, e]
theorem has_wp {Φ : Tx} {f : String} (d : Fn) [h : Has Φ f d] {k : Nat} {ms : List M} {S : Store} {P : M → Store → Prop} (hl : ms.length = d.ps.length) (hw : Wp (exs (evalFn Φ k) d.body (ms.map some ++ List.replicate (d.ns - d.ps.length) none) S) fun fl S => Wp (fin fl S) P) : Wp (evalFn Φ (k + 1) f ms S) P := by
  rw [has_eq d, wp_when, wp_bind]
  exact ⟨hl, hw⟩
/-- a wish -/
structure W where
  r : Int
  b : Int
  e : Int
  w : Int
def W.m (x : W) : M := .tup [.int x.r, .int x.b, .int x.e, .int x.w]
def bk (c : Int) (ws : List W) : M := .tup [.int c, .tup (ws.map W.m)]
theorem pl_ws (ws : List W) : M.plain.go (ws.map W.m) = true := by
  induction ws with
  | nil => rfl
  | cons x ws ih => simp [M.plain.go, W.m, M.plain, ih]
@[simp] theorem pl_w (x : W) : M.plain x.m = true := by simp [W.m, M.plain, M.plain.go]
@[simp] theorem pl_bk (c : Int) (ws : List W) : M.plain (bk c ws) = true := by simp [bk, M.plain, M.plain.go, pl_ws]
theorem ix0 (c : Int) (ws : List W) (S : Store) : ixop (bk c ws) (.int 0) S = .ok (.int c) S := rfl
theorem ix1 (c : Int) (ws : List W) (S : Store) : ixop (bk c ws) (.int 1) S = .ok (.tup (ws.map W.m)) S := rfl
theorem x0 (x : W) (S : Store) : ixop x.m (.int 0) S = .ok (.int x.r) S := rfl
theorem x1 (x : W) (S : Store) : ixop x.m (.int 1) S = .ok (.int x.b) S := rfl
theorem x2 (x : W) (S : Store) : ixop x.m (.int 2) S = .ok (.int x.e) S := rfl
theorem x3 (x : W) (S : Store) : ixop x.m (.int 3) S = .ok (.int x.w) S := rfl
theorem len_m (ws : List W) (S : Store) : biop .len [.tup (ws.map W.m)] S = .ok (.int ws.length) S := by simp [biop, seqOf]
def wz (ws : List W) (i : Int) : W := ws.getD i.toNat ⟨0, 0, 0, 0⟩
def Fit (ws : List W) (i : Int) : Prop := 0 ≤ i ∧ i < ws.length
theorem ixt (xs : List M) (i : Int) (S : Store) : ixop (.tup xs) (.int i) S = .of (atI xs i) fun m => .ok m S := rfl
theorem ixl (xs : List M) (i : Int) (S : Store) : ixop (.lst xs) (.int i) S = .of (atI xs i) fun m => .ok m S := rfl
theorem ix_z {ws : List W} {i : Int} (h : Fit ws i) (S : Store) : ixop (.tup (ws.map W.m)) (.int i) S = .ok (wz ws i).m S := by
  obtain ⟨h1, h2⟩ := h
  have e : atI (ws.map W.m) i = some (wz ws i).m := by
    unfold atI ixN
    rw [if_pos h1, if_pos (by simp; exact h2)]
    have hl : i.toNat < ws.length := by omega
    show (ws.map W.m)[i.toNat]? = _
    rw [List.getElem?_map, List.getElem?_eq_getElem hl]
    unfold wz
    rw [List.getD_eq_getElem?_getD, List.getElem?_eq_getElem hl]
    rfl
  rw [ixt, e]; rfl
def im (l : List Int) : List M := l.map M.int
@[simp] theorem pl_im (l : List Int) : M.plain.go (im l) = true := by
  induction l with
  | nil => rfl
  | cons a l ih =>
    show (M.plain (.int a) && M.plain.go (im l)) = true
    rw [ih]; rfl
@[simp] theorem len_im (l : List Int) : (im l).length = l.length := by simp [im]
@[simp] theorem ints_im (l : List Int) : intsOf (im l) = some l := by have := ints_map (fun i : Int => i) l; simpa [im] using this
theorem im_app (l l' : List Int) : im (l ++ l') = im l ++ im l' := by simp [im]
def clB (c : Int) (x y : W) : Bool := decide (x.r = y.r) && (decide (y.b < x.e + c) && decide (x.b < y.e + c))
def dc (c : Int) (ws : List W) (i j : Int) : Bool := (!decide (i = j)) && clB c (wz ws i) (wz ws j)
def step (c : Int) (ws : List W) (told : List Int) (w : Int) : List Int := if told.any (dc c ws w) = true then told else told ++ [w]
def letL (c : Int) (ws : List W) (ord : List Int) : List Int := ord.foldl (step c ws) []
theorem fold_sub (c : Int) (ws : List W) : ∀ (ord told : List Int), (∀ i ∈ ord.foldl (step c ws) told, i ∈ told ∨ i ∈ ord) ∧ (ord.foldl (step c ws) told).length ≤ told.length + ord.length
  | [], told => ⟨fun i h => .inl h, by simp⟩
  | w :: ord, told => by
    obtain ⟨h1, h2⟩ := fold_sub c ws ord (step c ws told w)
    rw [List.foldl_cons]
    refine ⟨fun i h => ?_, ?_⟩
    · rcases h1 i h with z | z
      · unfold step at z
        split at z
        · exact .inl z
        · rcases List.mem_append.mp z with z | z
          · exact .inl z
          · rw [List.mem_singleton.mp z]; exact .inr List.mem_cons_self
      · exact .inr (List.mem_cons_of_mem _ z)
    · have : (step c ws told w).length ≤ told.length + 1 := by unfold step; split <;> simp
      simp only [List.length_cons]; omega
theorem let_sub {c : Int} {ws : List W} {ord : List Int} {i : Int} (h : i ∈ letL c ws ord) : i ∈ ord := ((fold_sub c ws ord []).1 i h).elim (fun z => by cases z) id
theorem let_len (c : Int) (ws : List W) (ord : List Int) : (letL c ws ord).length ≤ ord.length := by have := (fold_sub c ws ord []).2; simpa [letL] using this
theorem let_take (c : Int) (ws : List W) (ord : List Int) (i : Nat) (h : i < ord.length) : letL c ws (ord.take (i + 1)) = step c ws (letL c ws (ord.take i)) ord[i] := by
  unfold letL
  rw [List.take_succ_eq_append_getElem h, List.foldl_append]
  rfl
def om (ord : List Int) : M := .tup (im ord)
@[simp] theorem pl_om (ord : List Int) : M.plain (om ord) = true := by simp [om, M.plain]
theorem bt_nm (i : Nat) (m : M) (γ : Mi.Env) : bindT (.nm i) m γ = some (γ.set i (some m)) := by unfold bindT; rfl
theorem bt_tu (l : List Nat) (ms : List M) (γ : Mi.Env) : bindT (.tu l) (.tup ms) γ = if ms.length = l.length then some (bindT.go l ms γ) else none := by unfold bindT; rfl
theorem fz_lst (l : List Int) : freeze [.lst (im l)] (.ref 0) = some (.lst (im l)) := by simp [freeze]
@[simp] theorem seq_om (S : Store) (l : List Int) : seqOf S (om l) = some (im l) := rfl
@[simp] theorem dic_om (S : Store) (l : List Int) : dicOf S (om l) = none := rfl
@[simp] theorem len_om (S : Store) (l : List Int) : biop .len [om l] S = .ok (.int l.length) S := by simp [om, biop, seqOf]
@[simp] theorem seq_lst (S : Store) (l : List M) : seqOf S (.lst l) = some l := rfl
@[simp] theorem seq_tup (S : Store) (l : List M) : seqOf S (.tup l) = some l := rfl
@[simp] theorem lof_lst (S : Store) (l : List M) : lstOf S (.lst l) = some l := rfl
@[simp] theorem notin_om (S : Store) (w : Int) (l : List Int) : cmpop .notin (.int w) (om l) S = .ok (.bl (!decide (w ∈ l))) S := by simp [cmpop]
theorem tup_im (l : List Int) : M.tup (im l) = om l := rfl
theorem isort_len (l : List Int) : (isort l).length = l.length := (isort_perm l).length_eq
theorem mem_isort {l : List Int} {i : Int} : i ∈ isort l ↔ i ∈ l := (isort_perm l).mem_iff
def nums (n : Nat) : List Int := (List.range n).map fun (i : Nat) => (i : Int)
theorem rng_nums (n : Nat) : rangeL 0 n = im (nums n) := by rw [rangeN]; simp [im, nums]
theorem mem_nums {n : Nat} {i : Int} : i ∈ nums n ↔ 0 ≤ i ∧ i < n := by
  unfold nums
  rw [List.mem_map]
  constructor
  · rintro ⟨j, hj, rfl⟩
    have := List.mem_range.mp hj
    omega
  · intro h
    exact ⟨i.toNat, List.mem_range.mpr (by omega), by omega⟩
theorem len_nums (n : Nat) : (nums n).length = n := by simp [nums]
@[simp] theorem im_nil : im [] = [] := rfl
@[simp] theorem im_cons (a : Int) (l : List Int) : im (a :: l) = M.int a :: im l := rfl
theorem at_zero (a : M) (l : List M) : atI (a :: l) 0 = some a := by
  unfold atI ixN
  rw [if_pos (by decide), if_pos (by simp)]
  rfl
@[simp] theorem bi_tup (x : M) (S : Store) : biop .tuple [x] S = .of (seqOf S x) fun ms => .ok (.tup ms) S := rfl
theorem cnts_im (l : List Int) : cnts (im l) = l.length := by
  induction l with
  | nil => rfl
  | cons a l ih => simp [cnts, cnt, ih]; omega
theorem getK_cons (p : Key × M) (l : List (Key × M)) (k : Key) : getK (p :: l) k = if p.1 = k then some p.2 else getK l k := by
  unfold getK
  rw [List.find?_cons]
  by_cases h : p.1 = k <;> simp [h]
theorem getK_app (l l' : List (Key × M)) (k : Key) : getK (l ++ l') k = (getK l k).or (getK l' k) := by
  induction l with
  | nil => simp [getK]
  | cons p l ih => rw [List.cons_append, getK_cons, getK_cons, ih]; split <;> simp
theorem getK_map (l : List (Key × M)) (k k' : Key) (m : M) : getK (l.map fun p => if p.1 = k then (p.1, m) else p) k' = if k = k' ∧ (getK l k').isSome = true then some m else getK l k' := by
  induction l with
  | nil => simp [getK]
  | cons p l ih =>
    rw [List.map_cons, getK_cons, getK_cons, ih]
    by_cases h1 : p.1 = k <;> by_cases h2 : p.1 = k' <;> by_cases h3 : k = k' <;> simp_all
theorem getK_put (l : List (Key × M)) (k k' : Key) (m : M) : getK (putM l k m) k' = if k = k' then some m else getK l k' := by
  unfold putM
  by_cases h : (l.any fun p => decide (p.1 = k)) = true
  · rw [if_pos h, getK_map]
    have hs : (getK l k).isSome = true := by
      obtain ⟨p, h1, h2⟩ := List.any_eq_true.mp h
      unfold getK
      rw [Option.isSome_map, List.find?_isSome]
      exact ⟨p, h1, h2⟩
    by_cases h3 : k = k'
    · subst h3; simp [hs]
    · simp [h3]
  · rw [if_neg h, getK_app]
    by_cases h3 : k = k'
    · subst h3
      have : getK l k = none := by
        unfold getK
        rw [Option.map_eq_none_iff, List.find?_eq_none]
        intro p hp hq
        exact h (List.any_eq_true.mpr ⟨p, hp, hq⟩)
      simp [this, getK_cons]
    · simp [getK_cons, h3, getK]
theorem get_merge {τ : Type} (l : List τ) (key : τ → Key) (f : Key → M) (k : Key) (h : k ∈ l.map key) : getK (mergeM (l.map fun x => (key x, f (key x)))) k = some (f k) := by
  unfold mergeM
  have : ∀ (l : List τ) acc, (k ∈ l.map key ∨ getK acc k = some (f k)) → getK ((l.map fun x => (key x, f (key x))).foldl (fun acc p => putM acc p.1 p.2) acc) k = some (f k) := by
    intro l
    induction l with
    | nil => intro acc h; simpa using h
    | cons x l ih =>
      intro acc h
      rw [List.map_cons, List.foldl_cons]
      refine ih _ ?_
      by_cases hx : key x = k
      · exact .inr (by rw [getK_put, if_pos hx, hx])
      · rw [getK_put, if_neg hx]
        rcases h with h | h
        · rw [List.map_cons, List.mem_cons] at h
          exact .inl (h.resolve_left (Ne.symm hx))
        · exact .inr h
  exact this l [] (.inl h)
theorem im_erase (l : List Int) (j : Nat) : (im l).eraseIdx j = im (l.eraseIdx j) := by
  unfold im
  induction l generalizing j with
  | nil => rfl
  | cons a l ih => cases j with
    | zero => rfl
    | succ j => simp [ih]
theorem perm_erase : ∀ (a : List Int) (j : Nat) (h : j < a.length), (a[j] :: a.eraseIdx j).Perm a
  | x :: a, 0, h => List.Perm.refl _
  | x :: a, j + 1, h => by
    simp only [List.getElem_cons_succ, List.eraseIdx_cons_succ]
    exact (List.Perm.swap _ _ _).trans ((perm_erase a j (by simpa using h)).cons x)
end Pg

namespace Pg
open PySem PySem.Spec L2 Mi
/-! ### the program: clashes, orders (texts printed by gen.py) -/
def d_are_clashing : Fn := ⟨["change", "one", "other"], [], 3, (.cons (.ret (.and (.cmp .eq (.ix (.var 1) (.con (.int 0))) (.ix (.var 2) (.con (.int 0)))) (.and (.cmp .gt (.bin false .add (.ix (.var 1) (.con (.int 2))) (.var 0)) (.ix (.var 2) (.con (.int 1)))) (.one (.cmp .gt (.bin false .add (.ix (.var 2) (.con (.int 2))) (.var 0)) (.ix (.var 1) (.con (.int 1)))))))) .nil)⟩
def d_do_clash : Fn := ⟨["book", "one", "other"], [], 3, (.cons (.ret (.and (.cmp .ne (.var 1) (.var 2)) (.one (.call true "are_clashing" (.cons (.ix (.var 0) (.con (.int 0))) (.cons (.ix (.ix (.var 0) (.con (.int 1))) (.var 1)) (.cons (.ix (.ix (.var 0) (.con (.int 1))) (.var 2)) .nil))))))) .nil)⟩
def d_let_row : Fn := ⟨["book", "order"], [], 5, (.cons (.set 2 (.lst true .nil)) (.cons (.for_ (.nm 3) (.val (.var 1)) (.cons (.ife (.not (.v (.anyg false (.nm 4) (.val (.var 2)) .no (.call true "do_clash" (.cons (.var 0) (.cons (.var 3) (.cons (.var 4) .nil)))) [4]))) (.cons (.exp (.meth .append (.var 2) (.cons (.var 3) .nil))) .nil) .nil) .nil)) (.cons (.ret (.var 2)) .nil)))⟩
def d_let_of : Fn := ⟨["book", "order"], [(0, [1, 0])], 2, (.cons (.ret (.bi .tuple (.cons (.bi (.sorted false) (.cons (.call true "let_row" (.cons (.var 0) (.cons (.var 1) .nil))) .nil)) .nil))) .nil)⟩
def d_refused_of : Fn := ⟨["book", "order"], [(0, [1, 0])], 4, (.cons (.set 2 (.call true "let_row" (.cons (.var 0) (.cons (.var 1) .nil)))) (.cons (.ret (.bi .tuple (.cons (.bi (.sorted false) (.cons (.lc false (.nm 3) (.val (.var 1)) (.so (.v (.cmp .notin (.var 3) (.var 2)))) (.var 3) [3]) .nil)) .nil))) .nil))⟩
def d_all_numbers : Fn := ⟨["book"], [], 1, (.cons (.ret (.lrange true (.cons (.bi .len (.cons (.ix (.var 0) (.con (.int 1))) .nil)) .nil))) .nil)⟩
section
variable {Φ : Tx}
variable [Has Φ "are_clashing" d_are_clashing]
theorem are_eq (k : Nat) (c : Int) (x y : W) : evalFn Φ (k + 1) "are_clashing" [.int c, x.m, y.m] [] = .ok (.bl (clB c x y)) [] := by
  rw [has_eq d_are_clashing]
  by_cases h1 : x.r = y.r <;> by_cases h2 : y.b < x.e + c <;> simp [d_are_clashing, x0, x1, x2, cmpop, eqM, binop, R.when, clB, h1, h2]
theorem are_call (k : Nat) (c : Int) (x y : W) (S : Store) : callM (evalFn Φ (k + 1)) true "are_clashing" [.int c, x.m, y.m] S = .ok (.bl (clB c x y)) S := pcall (by simp [M.plain.go, M.plain]) (are_eq k c x y) rfl
variable [Has Φ "do_clash" d_do_clash]
theorem do_eq (k : Nat) (c : Int) (ws : List W) {i j : Int} (hi : Fit ws i) (hj : Fit ws j) : evalFn Φ (k + 2) "do_clash" [bk c ws, .int i, .int j] [] = .ok (.bl (dc c ws i j)) [] := by
  rw [has_eq d_do_clash]
  by_cases h1 : i = j <;> simp [d_do_clash, ix0, ix1, ix_z hi, ix_z hj, are_call, cmpop, eqM, R.when, dc, h1]
theorem do_call (k : Nat) (c : Int) (ws : List W) {i j : Int} (hi : Fit ws i) (hj : Fit ws j) (S : Store) : callM (evalFn Φ (k + 2)) true "do_clash" [bk c ws, .int i, .int j] S = .ok (.bl (dc c ws i j)) S := pcall (by simp [M.plain.go, M.plain]) (do_eq k c ws hi hj) rfl
variable [Has Φ "let_row" d_let_row]
theorem row_ok (k : Nat) (c : Int) (ws : List W) (ord : List Int) (hw : ws.length ≤ 1000) (ho : ∀ i ∈ ord, Fit ws i) (hl : ord.length ≤ 1000) : Wp (evalFn Φ (k + 3) "let_row" [bk c ws, om ord] []) fun r S => r = .ref 0 ∧ S = [.lst (im (letL c ws ord))] := by
  refine has_wp d_let_row rfl ?_
  simp [d_let_row, mkL, wp_when, big, om, seqOf]
  unfold forRun
  refine wp_for (fun i γ S => ∃ c3 c4, γ = [some (bk c ws), some (om ord), some (.ref 0), c3, c4] ∧ S = [.lst (im (letL c ws (ord.take i)))]) (im ord) (by rintro i γ S _ ⟨_, _, _, rfl⟩; rfl) ?_ ?_ _ _ ⟨none, none, rfl, rfl⟩
  · rintro i x γ S hx ⟨c3, c4, rfl, rfl⟩
    unfold im at hx
    rw [List.getElem?_map] at hx
    obtain ⟨w, hw', rfl⟩ := Option.map_eq_some_iff.mp hx
    obtain ⟨hi, ew⟩ := List.getElem?_eq_some_iff.mp hw'
    have fw : Fit ws w := ho w (by rw [← ew]; exact List.getElem_mem hi)
    have ll := let_len c ws (ord.take i)
    rw [List.length_take] at ll
    obtain ⟨told, et⟩ : ∃ told, letL c ws (ord.take i) = told := ⟨_, rfl⟩
    have ft : ∀ o ∈ told, Fit ws o := fun o h => ho o (List.mem_of_mem_take (let_sub (by rw [et]; exact h)))
    have e := let_take c ws ord i hi
    rw [et, ew] at e
    rw [et] at ll ⊢
    have ea : anyRun (evalFn Φ (k + 2)) [some (bk c ws), some (om ord), some (.ref 0), some (.int w), c4] [.lst (im told)] false (.nm 4) .no (.call true "do_clash" (.cons (.var 0) (.cons (.var 3) (.cons (.var 4) .nil)))) [4] ⟨im told, .ref 0, im told⟩ = .ok (.bl (told.any (dc c ws w))) [.lst (im told)] := by
      have := any_pure (call := evalFn Φ (k + 2)) (γ := [some (bk c ws), some (om ord), some (.ref 0), some (.int w), c4]) (S := [.lst (im told)]) (neg := false) (tg := .nm 4) (ifs := .no) (e := .call true "do_clash" (.cons (.var 0) (.cons (.var 3) (.cons (.var 4) .nil)))) (own := [4]) (s := ⟨im told, .ref 0, im told⟩) told M.int (dc c ws w) rfl (by unfold big; omega) rfl fun o ho => by
        simp [turnP, bt_nm, wipeE, do_call k c ws fw (ft o ho), R.calm]
      simpa using this
    have e1 : i + 1 ≤ 1000 := by omega
    have lt : told.length < big := by unfold big; omega
    by_cases h : told.any (dc c ws w) = true
    · have e : letL c ws (ord.take (i + 1)) = told := by rw [e]; unfold step; rw [if_pos h]
      simp [bt_nm, seqOf, ea, h, truth, e]
    · have e : letL c ws (ord.take (i + 1)) = told ++ [w] := by rw [e]; unfold step; rw [if_neg h]
      have h := Bool.eq_false_iff.mpr h
      simp [bt_nm, seqOf, ea, h, truth, e, lstOf, meop, wp_when, lt, im_app]
      try simp [im]
  · rintro γ S ⟨c3, c4, rfl, rfl⟩
    simp
theorem row_call (k : Nat) (c : Int) (ws : List W) (ord : List Int) (hw : ws.length ≤ 1000) (ho : ∀ i ∈ ord, Fit ws i) (hl : ord.length ≤ 1000) (S : Store) : callM (evalFn Φ (k + 3)) true "let_row" [bk c ws, om ord] S = .ok (.lst (im (letL c ws ord))) S := by
  obtain ⟨r, S', e, rfl, rfl⟩ := (row_ok (Φ := Φ) k c ws ord hw ho hl).ex
  exact pure_call (de_plains S _ (by simp [M.plain.go])) e (fz_lst _)
variable [Has Φ "let_of" d_let_of]
theorem of_eq (k : Nat) (c : Int) (ws : List W) (ord : List Int) (hw : ws.length ≤ 1000) (ho : ∀ i ∈ ord, Fit ws i) (hl : ord.length ≤ 60) : evalFn Φ (k + 4) "let_of" [bk c ws, om ord] [] = .ok (om (isort (letL c ws ord))) [] := by
  rw [has_eq d_let_of]
  have ll := let_len c ws ord
  have l64 : (letL c ws ord).length < 64 := by omega
  simp [d_let_of, row_call k c ws ord hw ho (by omega), biop, l64, mkL, R.when]
  rfl
theorem of_call (k : Nat) (c : Int) (ws : List W) (ord : List Int) (hw : ws.length ≤ 1000) (ho : ∀ i ∈ ord, Fit ws i) (hl : ord.length ≤ 60) (S : Store) : callM (evalFn Φ (k + 4)) true "let_of" [bk c ws, om ord] S = .ok (om (isort (letL c ws ord))) S :=
  pcall (by simp [M.plain.go]) (of_eq k c ws ord hw ho hl) (by simp)
end
section
variable {Φ : Tx} [Has Φ "are_clashing" d_are_clashing] [Has Φ "do_clash" d_do_clash] [Has Φ "let_row" d_let_row] [Has Φ "refused_of" d_refused_of]
/-- what is refused -/
def refL (c : Int) (ws : List W) (ord : List Int) : List Int := isort (ord.filter fun i => !decide (i ∈ letL c ws ord))
theorem refused_eq (k : Nat) (c : Int) (ws : List W) (ord : List Int) (hw : ws.length ≤ 1000) (ho : ∀ i ∈ ord, Fit ws i) (hl : ord.length ≤ 60) : evalFn Φ (k + 4) "refused_of" [bk c ws, om ord] [] = .ok (om (refL c ws ord)) [] := by
  rw [has_eq d_refused_of]
  have el : ∀ S c3, lcRun (evalFn Φ (k + 3)) [some (bk c ws), some (om ord), some (.lst (im (letL c ws ord))), c3] S (.nm 3) (.so (.v (.cmp .notin (.var 3) (.var 2)))) (.var 3) [3] ⟨im ord, om ord, im ord⟩ = .ok (im (ord.filter fun i => !decide (i ∈ letL c ws ord))) S := fun S c3 => by
    exact lc_some ord M.int (fun i => !decide (i ∈ letL c ws ord)) M.int rfl (by unfold big; omega) rfl fun o ho => by
      have enot : cmpop .notin (.int o) (.lst (im (letL c ws ord))) S = .ok (.bl (!decide (o ∈ letL c ws ord))) S := by simp [cmpop, dicOf]
      by_cases hd : o ∈ letL c ws ord <;> simp [turnP, bt_nm, wipeE, enot, R.calm, truth, hd]
  have ll := List.length_filter_le (fun i => !decide (i ∈ letL c ws ord)) ord
  have l64 : (ord.filter fun i => !decide (i ∈ letL c ws ord)).length < 64 := by omega
  simp [d_refused_of, row_call k c ws ord hw ho (by omega), el, mkL]
  simp [biop, lstOf, l64, mkL, R.when]
  rfl
theorem refused_call (k : Nat) (c : Int) (ws : List W) (ord : List Int) (hw : ws.length ≤ 1000) (ho : ∀ i ∈ ord, Fit ws i) (hl : ord.length ≤ 60) (S : Store) : callM (evalFn Φ (k + 4)) true "refused_of" [bk c ws, om ord] S = .ok (om (refL c ws ord)) S :=
  pcall (by simp [M.plain.go]) (refused_eq k c ws ord hw ho hl) (by simp)
end
end Pg

namespace Pg
open PySem PySem.Spec L2 Mi
/-! ### a store: what the drawing needs in front (c objects), the rest behind -/
def Rg (c : Nat) (G : Store → Prop) (S T : Store) : Prop := ∃ pre, S = pre ++ T ∧ pre.length = c ∧ G pre
section
variable {c : Nat} {G : Store → Prop} {S T : Store} {n i : Nat} {l : List M}
theorem Rg.len (h : Rg c G S T) : S.length = c + T.length := by
  obtain ⟨pre, rfl, rfl, _⟩ := h
  simp
theorem Rg.app (h : Rg c G S T) (u : Store) : Rg c G (S ++ u) (T ++ u) := by
  obtain ⟨pre, rfl, rfl, g⟩ := h
  exact ⟨pre, by simp, rfl, g⟩
theorem Rg.at (h : Rg c G S T) (hn : n = c + i) : S[n]? = T[i]? := by
  obtain ⟨pre, rfl, rfl, _⟩ := h
  rw [hn, List.getElem?_append_right (by omega), Nat.add_sub_cancel_left]
theorem Rg.put (o : O) (h : Rg c G S T) (hn : n = c + i) : Rg c G (S.set n o) (T.set i o) := by
  obtain ⟨pre, rfl, rfl, g⟩ := h
  refine ⟨pre, ?_, rfl, g⟩
  rw [hn, List.set_append_right _ _ (by omega), Nat.add_sub_cancel_left]
theorem Rg.seq (h : Rg c G S T) (hn : n = c + i) (e : T[i]? = some (.lst l)) : seqOf S (.ref n) = some l := by simp only [seqOf, h.at hn, e]
theorem Rg.dic (h : Rg c G S T) (hn : n = c + i) (e : T[i]? = some (.lst l)) : dicOf S (.ref n) = none := by simp only [dicOf, h.at hn, e]
theorem Rg.lof (h : Rg c G S T) (hn : n = c + i) (e : T[i]? = some (.lst l)) : lstOf S (.ref n) = some l := by simp only [lstOf, h.at hn, e]
theorem Rg.lenr (h : Rg c G S T) (hn : n = c + i) (e : T[i]? = some (.lst l)) : biop .len [.ref n] S = .ok (.int l.length) S := by simp only [biop, h.seq hn e, R.of_some]
theorem Rg.tru (h : Rg c G S T) (hn : n = c + i) (e : T[i]? = some (.lst l)) : truth S (.ref n) = some (!l.isEmpty) := by simp only [truth, h.at hn, e]
theorem Rg.ix {v : Int} {m : M} (h : Rg c G S T) (hn : n = c + i) (e : T[i]? = some (.lst l)) (hm : atI l v = some m) : ixop (.ref n) (.int v) S = .ok m S := by simp only [ixop, h.dic hn e, h.seq hn e, R.of_some, hm]
theorem Rg.push (m : M) (h : Rg c G S T) (hn : n = c + i) (e : T[i]? = some (.lst l)) (hl : l.length < big) : ∃ S', meop .append (.ref n) [m] S = .ok .non S' ∧ Rg c G S' (T.set i (.lst (l ++ [m]))) :=
  ⟨S.set n (.lst (l ++ [m])), by simp only [meop, h.at hn, e, R.of_some, R.when_true hl], h.put _ hn⟩
theorem Rg.popi {v : Int} (h : Rg c G S T) (hn : n = c + i) (e : T[i]? = some (.lst l)) (hl : l.length < 1000) (h0 : 0 ≤ v) (h1 : v < l.length) : ∃ S', ∃ hv : v.toNat < l.length, meop .pop (.ref n) [.int v] S = .ok l[v.toNat] S' ∧ Rg c G S' (T.set i (.lst (l.eraseIdx v.toNat))) := by
  have hlt : v.toNat < l.length := by omega
  refine ⟨_, hlt, ?_, h.put _ hn⟩
  have es : seqIndex? v l.length = some v.toNat := PySem.StrLaws.seqIndex_nonneg h0 h1
  have hb : v.natAbs < 2 ^ 62 := by omega
  simp only [meop, h.at hn, e, R.of_some, R.when_true hb, es, List.getElem?_eq_getElem hlt]
theorem cut_to (xs : List M) {z : Int} (h0 : 0 ≤ z) : cutM xs none (some z) = xs.take z.toNat := by
  obtain ⟨n, rfl⟩ : ∃ n : Nat, z = n := ⟨z.toNat, by omega⟩
  unfold cutM
  rw [HT.sIx_nat, HT.sIx_none]
  rcases Nat.le_total n xs.length with h | h
  · rw [Nat.min_eq_left h]; simp
  · rw [Nat.min_eq_right h]; simp [List.take_of_length_le h]
theorem cut_from (xs : List M) {z : Int} (h0 : 0 ≤ z) : cutM xs (some z) none = xs.drop z.toNat := by
  obtain ⟨n, rfl⟩ : ∃ n : Nat, z = n := ⟨z.toNat, by omega⟩
  unfold cutM
  rw [HT.sIx_nat, HT.sIx_none]
  simp
  rcases Nat.le_total n xs.length with h | h
  · rw [Nat.min_eq_left h, ← List.length_drop, List.take_length]
  · rw [Nat.min_eq_right h, Nat.sub_self, List.drop_eq_nil_of_le h]
    simp
theorem Rg.sl (h : Rg c G S T) (hn : n = c + i) (e : T[i]? = some (.lst l)) (lo hi : Option Int) : slop false (.ref n) lo hi S = .ok (.lst (cutM l lo hi)) S := by
  simp only [slop, h.seq hn e, R.of_some, mkL]
  try rfl
end
/-! ### picks -/
theorem ints_back : ∀ {ms : List M} {is : List Int}, intsOf ms = some is → ms = is.map M.int
  | [], is, h => by simp only [intsOf, Option.some.injEq] at h; subst h; rfl
  | m :: r, is, h => by
    cases m with
    | int i =>
      simp only [intsOf, Option.map_eq_some_iff] at h
      obtain ⟨js, e, rfl⟩ := h
      rw [ints_back e]; rfl
    | _ => simp [intsOf] at h
theorem at_mem (xs : List M) {v : Int} (h0 : 0 ≤ v) (h1 : v < xs.length) : ∃ x ∈ xs, atI xs v = some x := by
  have hl : v.toNat < xs.length := by omega
  refine ⟨xs[v.toNat], List.getElem_mem hl, ?_⟩
  unfold atI ixN
  rw [if_pos h0, if_pos h1]
  simp [hl]
theorem at_map {τ : Type} (f : τ → M) (l : List τ) {v : Int} (h0 : 0 ≤ v) (h1 : v < l.length) : ∃ x ∈ l, atI (l.map f) v = some (f x) := by
  have hl : v.toNat < l.length := by omega
  refine ⟨l[v.toNat], List.getElem_mem hl, ?_⟩
  unfold atI ixN
  rw [if_pos h0, if_pos (by simp; exact h1)]
  simp [hl]
section
variable {S : Store} {P : M → Store → Prop} {xs : List M} {v : Int}
theorem wp_ixt (h0 : 0 ≤ v) (h1 : v < xs.length) (h : ∀ x ∈ xs, P x S) : Wp (ixop (.tup xs) (.int v) S) P := by
  obtain ⟨x, hx, e⟩ := at_mem xs h0 h1
  rw [ixt, e, R.of_some, wp_ok]
  exact h x hx
theorem wp_ixl (h0 : 0 ≤ v) (h1 : v < xs.length) (h : ∀ x ∈ xs, P x S) : Wp (ixop (.lst xs) (.int v) S) P := by
  obtain ⟨x, hx, e⟩ := at_mem xs h0 h1
  rw [ixl, e, R.of_some, wp_ok]
  exact h x hx
theorem wp_ixtI {zs : List Int} (h0 : 0 ≤ v) (e : intsOf xs = some zs) (h1 : v < zs.length) (h : ∀ z ∈ zs, P (.int z) S) : Wp (ixop (.tup xs) (.int v) S) P := by
  have em := ints_back e
  subst em
  refine wp_ixt h0 (by simpa using h1) fun x hx => ?_
  obtain ⟨z, hz, rfl⟩ := List.mem_map.mp hx
  exact h z hz
theorem wp_ixlI {zs : List Int} (h0 : 0 ≤ v) (e : intsOf xs = some zs) (h1 : v < zs.length) (h : ∀ z ∈ zs, P (.int z) S) : Wp (ixop (.lst xs) (.int v) S) P := by
  have em := ints_back e
  subst em
  refine wp_ixl h0 (by simpa using h1) fun x hx => ?_
  obtain ⟨z, hz, rfl⟩ := List.mem_map.mp hx
  exact h z hz
end
/-! ### operations of ints -/
section
variable (al : Bool) (i j k : Int) (S : Store)
theorem b_add : binop al .add (.int i) (.int j) S = .ok (.int (i + j)) S := rfl
theorem b_sub : binop al .sub (.int i) (.int j) S = .ok (.int (i - j)) S := rfl
theorem b_mul : binop al .mul (.int i) (.int j) S = .when (CMulOk i j) (.ok (.int (i * j)) S) := rfl
theorem b_mod : binop al .mod (.int i) (.int j) S = .when (0 < j) (.ok (.int (i % j)) S) := rfl
theorem b_div : binop al .fdiv (.int i) (.int j) S = .when (CDivOk i j) (.ok (.int (i / j)) S) := rfl
theorem b_tup (xs ys : List M) : binop al .add (.tup xs) (.tup ys) S = .when (xs.length + ys.length ≤ big) (.ok (.tup (xs ++ ys)) S) := rfl
theorem b_lst (xs ys : List M) : binop false .add (.lst xs) (.lst ys) S = .when (xs.length + ys.length ≤ big) (.ok (.lst (xs ++ ys)) S) := rfl
theorem c_eq : cmpop .eq (.int i) (.int j) S = .ok (.bl (i == j)) S := rfl
theorem c_ne : cmpop .ne (.int i) (.int j) S = .ok (.bl (!(i == j))) S := rfl
theorem c_lt : cmpop .lt (.int i) (.int j) S = .ok (.bl (decide (i < j))) S := rfl
theorem c_le : cmpop .le (.int i) (.int j) S = .ok (.bl (decide (i ≤ j))) S := rfl
theorem c_gt : cmpop .gt (.int i) (.int j) S = .ok (.bl (decide (j < i))) S := rfl
theorem c_ge : cmpop .ge (.int i) (.int j) S = .ok (.bl (decide (j ≤ i))) S := rfl
theorem t_bl (b : Bool) : truth S (.bl b) = some b := rfl
theorem bi_abs : biop .abs [.int i] S = .ok (.int (if i < 0 then -i else i)) S := rfl
theorem bi_int : biop .int [.int i] S = .ok (.int i) S := rfl
theorem bi_intb (b : Bool) : biop .int [.bl b] S = .ok (.int (if b then 1 else 0)) S := rfl
theorem bi_max : biop .max [.int i, .int j] S = .ok (.int (if j > i then j else i)) S := rfl
theorem bi_min : biop .min [.int i, .int j] S = .ok (.int (if j < i then j else i)) S := rfl
theorem bi_max3 : biop .max [.int i, .int j, .int k] S = .ok (.int (if k > (if j > i then j else i) then k else (if j > i then j else i))) S := rfl
theorem bi_lent (xs : List M) : biop .len [.tup xs] S = .ok (.int xs.length) S := rfl
theorem bi_lenl (xs : List M) : biop .len [.lst xs] S = .ok (.int xs.length) S := rfl
theorem bi_listl (xs : List M) (al : Bool) : biop (.list al) [.lst xs] S = mkL al xs S := rfl
theorem bi_listt (xs : List M) (al : Bool) : biop (.list al) [.tup xs] S = mkL al xs S := rfl
theorem s_tup (xs : List M) (l h : Option Int) : slop al (.tup xs) l h S = .ok (.tup (cutM xs l h)) S := rfl
theorem s_lst (xs : List M) (l h : Option Int) : slop al (.lst xs) l h S = mkL al (cutM xs l h) S := rfl
end
theorem perm_er {τ : Type} : ∀ (a : List τ) (j : Nat) (h : j < a.length), (a[j] :: a.eraseIdx j).Perm a
  | x :: a, 0, h => List.Perm.refl _
  | x :: a, j + 1, h => by
    simp only [List.getElem_cons_succ, List.eraseIdx_cons_succ]
    exact (List.Perm.swap _ _ _).trans ((perm_er a j (by simpa using h)).cons x)
theorem nodup_nums (n : Nat) : (nums n).Nodup := by
  unfold nums
  rw [List.Nodup, List.pairwise_map]
  exact List.nodup_range.imp fun h e => h (by omega)
theorem sort_im (l : List Int) (h : l.length < 64) (S : Store) : biop (.sorted false) [.lst (im l)] S = .ok (.lst (im (isort l))) S := by
  simp [biop, h, mkL, R.when]
  rfl
theorem lc_filter {call : String → List M → Store → R M} {γ : Mi.Env} {S : Store} {i : Nat} {t : T} {l : List Int} {s : Src} (p : Int → Bool) (hs : s.items = im l) (hl : l.length ≤ big) (hok : s.ok S)
    (ht : ∀ x ∈ l, evT call t ((wipeE γ [i]).set i (some (.int x))) S = .ok (p x) S) (hi : ((wipeE γ [i]).set i (some .non)).length > i) : lcRun call γ S (.nm i) (.so t) (.var i) [i] s = .ok (im (l.filter p)) S := by
  refine lc_some l M.int p M.int hs hl hok fun x hx => ?_
  have hlen : i < (wipeE γ [i]).length := by simpa using hi
  have e : varM ((wipeE γ [i]).set i (some (.int x))) i S = .ok (.int x) S := by
    unfold varM
    rw [List.getElem?_set_self hlen]
  unfold turnP
  rw [bt_nm, R.of_some, q_tso, ht x hx, R.bind_ok]
  cases p x
  · rfl
  · simp only [if_true, q_var, e, R.bind_ok]
    rfl
end Pg

namespace K03
open PySem PySem.Spec L2 Mi Pg
abbrev Φ := tabF Ψ
/-! ### the brook -/
def St (b n : Int) (gs : List Int) (G0 : List M) (R : Store) : Store := .lst G0 :: .lst (im gs) :: .lst [.ref 1, .int b, .int n] :: R
def Gpl (pre : Store) : Prop := ∃ b n gs G0, pre = St b n gs G0 []
abbrev Rn := Rg 3 Gpl
section
variable {b n : Int} {gs : List Int} {G0 : List M} {T : Store}
theorem x0 : ixop (.ref 2) (.int 0) (St b n gs G0 T) = .ok (.ref 1) (St b n gs G0 T) := rfl
theorem x1 : ixop (.ref 2) (.int 1) (St b n gs G0 T) = .ok (.int b) (St b n gs G0 T) := rfl
theorem x2 : ixop (.ref 2) (.int 2) (St b n gs G0 T) = .ok (.int n) (St b n gs G0 T) := rfl
theorem s1 (v : Int) : setiop (.ref 2) (.int 1) (.int v) (St b n gs G0 T) = .ok () (St v n gs G0 T) := rfl
theorem s2 (v : Int) : setiop (.ref 2) (.int 2) (.int v) (St b n gs G0 T) = .ok () (St b v gs G0 T) := rfl
theorem x2l : ixlop (.ref 2) (.int 2) (St b n gs G0 T) = .ok (.int n) (St b n gs G0 T) := rfl
theorem aug1 (S : Store) : augop .add (.int n) (.int 1) S = .ok (.int (n + 1)) S := rfl
theorem ln : biop .len [.ref 1] (St b n gs G0 T) = .ok (.int gs.length) (St b n gs G0 T) := by simp [biop, seqOf, St]
theorem l1 : lstOf (St b n gs G0 T) (.ref 1) = some (im gs) := rfl
theorem pop1 (z : Int) : meop .pop (.ref 1) [] (St b n (gs ++ [z]) G0 T) = .ok (.int z) (St b n gs G0 T) := by simp [meop, St, im]
theorem at_last (z : Int) : ixN (im (gs ++ [z])).length (-1) = some gs.length := by
  unfold ixN
  rw [if_neg (by decide), if_pos (by simp; omega)]
  congr 1
  simp
  omega
theorem last1 (z : Int) : ixop (.ref 1) (.int (-1)) (St b n (gs ++ [z]) G0 T) = .ok (.int z) (St b n (gs ++ [z]) G0 T) := by
  have h1 : dicOf (St b n (gs ++ [z]) G0 T) (.ref 1) = none := rfl
  have h2 : seqOf (St b n (gs ++ [z]) G0 T) (.ref 1) = some (im (gs ++ [z])) := rfl
  simp only [ixop, h1, h2, R.of_some]
  unfold atI
  rw [at_last]
  simp [im]
theorem setl (z v : Int) : setiop (.ref 1) (.int (-1)) (.int v) (St b n (gs ++ [z]) G0 T) = .ok () (St b n (gs ++ [v]) G0 T) := by
  simp only [setiop, St, List.getElem?_cons_succ, List.getElem?_cons_zero, R.of_some, at_last]
  congr 1
  simp [im, List.set_append_right]
end
set_option maxHeartbeats 0 in
theorem ripple (k : Nat) (m : Int) (hm : 1 ≤ m ∧ m < 2 ^ 62) {S T : Store} (h : Rn S T) {P : M → Store → Prop} (hP : ∀ v S', Rn S' T → 0 ≤ v → v < m → P (.int v) S') : Wp (evalFn Φ (k + 1) "_law_chime" [.ref 2, .int m] S) P := by
  have hΦ : Φ "_law_chime" = some d__law_chime := by rfl
  refine wp_fn hΦ rfl ?_
  have hm0 : 0 < m := by omega
  by_cases h1 : m < 2
  · simp [d__law_chime, c_lt, t_bl, h1]
    exact hP 0 S h (by omega) (by omega)
  have hr : ∀ z : Int, 0 ≤ z % m ∧ z % m < m := fun z => ⟨Int.emod_nonneg _ (by omega), Int.emod_lt_of_pos _ hm0⟩
  have hd : ∀ z, CDivOk z m := fun z => cdiv_s hm0 (by omega)
  obtain ⟨pre, rfl, _, b, n, gs, G0, rfl⟩ := h
  have fin : ∀ v b n gs, 0 ≤ v → v < m → P (.int v) (St b n gs G0 T) := fun v b n gs h1 h2 => hP v _ ⟨_, rfl, rfl, b, n, gs, G0, rfl⟩ h1 h2
  show Wp (exs _ _ _ (St b n gs G0 T)) _
  rcases List.eq_nil_or_concat gs with rfl | ⟨gs', z, rfl⟩
  · simp [d__law_chime, c_lt, c_gt, t_bl, h1, x0, x1, x2, x2l, aug1, s1, s2, ln, b_add, b_mul, b_mod, b_div, bi_int, wp_when, cmul_r, cdiv_s, hm0]
    exact fin _ _ _ _ (hr _).1 (hr _).2
  · rw [List.concat_eq_append]
    have g3 : (0 : Int) < gs'.length + 1 := by omega
    by_cases c1 : z < m
    · simp [d__law_chime, c_lt, c_gt, t_bl, h1, x0, x1, x2, x2l, aug1, s1, s2, ln, last1, setl, pop1, l1, b_add, b_mul, b_mod, b_div, bi_int, wp_when, hd, hm0, g3, c1]
      exact fin _ _ _ _ (hr _).1 (hr _).2
    · simp [d__law_chime, c_lt, c_gt, t_bl, h1, x0, x1, x2, x2l, aug1, s1, s2, ln, last1, setl, pop1, l1, b_add, b_mul, b_mod, b_div, bi_int, wp_when, hd, hm0, g3, c1]
      exact fin _ _ _ _ (hr _).1 (hr _).2
/-- one of a row of ints -/
theorem of_ok (k : Nat) (l : List Int) (hl : l ≠ []) (hn : l.length ≤ 1000) {S T : Store} (h : Rn S T) {P : M → Store → Prop} (hP : ∀ v S', Rn S' T → v ∈ l → P (.int v) S') : Wp (evalFn Φ (k + 2) "_law_of" [.ref 2, .tup (im l)] S) P := by
  have hΦ : Φ "_law_of" = some d__law_of := by rfl
  refine wp_fn hΦ rfl ?_
  have hp : 0 < l.length := List.length_pos_iff.mpr hl
  have elen : ∀ S, biop .len [.tup (im l)] S = .ok (.int l.length) S := fun S => by simp [biop]
  simp [d__law_of, elen]
  refine ripple k l.length (by omega) h fun v S' r a b => ?_
  refine wp_ixtI a (ints_im l) b fun z hz => ?_
  exact hP z S' r hz
/-- one of a list of things -/
theorem ofL_ok (k : Nat) (l : List M) (hl : l ≠ []) (hn : l.length ≤ 1000) {S T : Store} (h : Rn S T) {P : M → Store → Prop} (hP : ∀ v S', Rn S' T → v ∈ l → P v S') : Wp (evalFn Φ (k + 2) "_law_of" [.ref 2, .lst l] S) P := by
  have hΦ : Φ "_law_of" = some d__law_of := by rfl
  refine wp_fn hΦ rfl ?_
  have hp : 0 < l.length := List.length_pos_iff.mpr hl
  simp [d__law_of, bi_lenl]
  refine ripple k l.length (by omega) h fun v S' r a b => ?_
  refine wp_ixl a (by omega) fun z hz => ?_
  exact hP z S' r hz
theorem ofR_ok (k : Nat) (l : List M) (hl : l ≠ []) (hn : l.length ≤ 1000) (n i : Nat) (hi : n = 3 + i) {S T : Store} (h : Rn S T) (e : T[i]? = some (.lst l)) {P : M → Store → Prop} (hP : ∀ v S', Rn S' T → v ∈ l → P v S') : Wp (evalFn Φ (k + 2) "_law_of" [.ref 2, .ref n] S) P := by
  have hΦ : Φ "_law_of" = some d__law_of := by rfl
  refine wp_fn hΦ rfl ?_
  have hp : 0 < l.length := List.length_pos_iff.mpr hl
  simp [d__law_of, h.lenr hi e]
  refine ripple k l.length (by omega) h fun v S' r a b => ?_
  obtain ⟨x, hx, ex⟩ := at_mem l a (by omega)
  rw [r.ix hi e ex, wp_ok]
  exact hP x S' r hx
end K03

namespace Pg
open PySem PySem.Spec L2 Mi
/-! ### loops that look for the first element with a fault -/
/-- the first index below n at which g tells something -/
def fst1 {σ : Type} (g : Nat → Option σ) : Nat → Option (Nat × σ)
  | 0 => none
  | n + 1 => match fst1 g n with
    | some p => some p
    | none => (g n).map (n, ·)
theorem fst1_none {σ : Type} {g : Nat → Option σ} : ∀ {n : Nat}, fst1 g n = none → ∀ j, j < n → g j = none
  | 0, _, j, hj => by omega
  | n + 1, h, j, hj => by
    unfold fst1 at h
    cases e : fst1 g n with
    | some p => rw [e] at h; cases h
    | none =>
      rw [e] at h
      have h : (g n).map (n, ·) = none := h
      by_cases hjn : j = n
      · subst hjn; simpa using h
      · exact fst1_none e j (by omega)
theorem fst1_of_none {σ : Type} {g : Nat → Option σ} : ∀ {n : Nat}, (∀ j, j < n → g j = none) → fst1 g n = none
  | 0, _ => rfl
  | n + 1, h => by
    unfold fst1
    rw [fst1_of_none fun j hj => h j (by omega)]
    show (g n).map (n, ·) = none
    rw [h n (by omega)]; rfl
theorem fst1_some {σ : Type} {g : Nat → Option σ} : ∀ {n i : Nat} {s : σ}, fst1 g n = some (i, s) → i < n ∧ g i = some s ∧ ∀ j, j < i → g j = none
  | 0, i, s, h => by cases h
  | n + 1, i, s, h => by
    unfold fst1 at h
    cases e : fst1 g n with
    | some p =>
      rw [e] at h
      obtain ⟨i', s'⟩ := p
      cases h
      obtain ⟨h1, h2, h3⟩ := fst1_some e
      exact ⟨by omega, h2, h3⟩
    | none =>
      rw [e] at h
      have h : (g n).map (n, ·) = some (i, s) := h
      obtain ⟨s', h1, h2⟩ := Option.map_eq_some_iff.mp h
      cases h2
      exact ⟨by omega, h1, fst1_none e⟩
theorem fst1_map {σ τ : Type} {g : Nat → Option σ} (f : Nat → σ → τ) : ∀ n : Nat, fst1 (fun i => (g i).map (f i)) n = (fst1 g n).map fun p => (p.1, f p.1 p.2)
  | 0 => rfl
  | n + 1 => by
    unfold fst1
    rw [fst1_map f n]
    cases fst1 g n with
    | some p => rfl
    | none => show ((g n).map (f n)).map (n, ·) = ((g n).map (n, ·)).map _; cases g n <;> rfl
theorem fst1_congr {σ : Type} {g g' : Nat → Option σ} : ∀ {n : Nat}, (∀ i, i < n → g i = g' i) → fst1 g n = fst1 g' n
  | 0, _ => rfl
  | n + 1, h => by
    unfold fst1
    rw [fst1_congr fun i hi => h i (by omega), h n (by omega)]
/-- the loop's end at a fault: it leaves -/
def Leaves (r : R F) : Prop := (∃ m S, r = .ok (.ret m) S) ∨ ∃ x S, r = .exc x S
theorem scan {s : Src} {f : M → Mi.Env → Store → R F} {S : Store} (hs : s.ok S) (l : List M) (I : Nat → Mi.Env → Prop) (stop : Nat → Option (R F))
    (hst : ∀ i x (γ : Mi.Env) r, l[i]? = some x → I i γ → (∀ j, j < i → stop j = none) → stop i = some r → f x γ S = r ∧ Leaves r)
    (hgo : ∀ i x (γ : Mi.Env), l[i]? = some x → I i γ → (∀ j, j ≤ i → stop j = none) → ∃ γ' : Mi.Env, f x γ S = .ok (.nx γ') S ∧ I (i + 1) γ') (γ : Mi.Env) (h0 : I 0 γ) :
    (∀ i r, fst1 stop l.length = some (i, r) → forLoop s f l γ S = r) ∧ (fst1 stop l.length = none → ∃ γ', I l.length γ' ∧ forLoop s f l γ S = .ok (.nx γ') S) := by
  have key : ∀ (m : List M) (i : Nat), l.drop i = m → i ≤ l.length → (∀ j, j < i → stop j = none) → ∀ γ, I i γ →
      (∀ q r, fst1 stop l.length = some (q, r) → forLoop s f m γ S = r) ∧ (fst1 stop l.length = none → ∃ γ', I l.length γ' ∧ forLoop s f m γ S = .ok (.nx γ') S) := by
    intro m
    induction m with
    | nil =>
      intro i hd hi hj γ h
      have hi' : i = l.length := by
        have := congrArg List.length hd
        simp at this; omega
      subst hi'
      have hn := fst1_of_none hj
      refine ⟨fun q r e => (by rw [hn] at e; cases e), fun _ => ⟨γ, h, ?_⟩⟩
      unfold forLoop
      rw [R.when_true hs]
    | cons x m ih =>
      intro i hd hi hj γ h
      have hlt : i < l.length := by
        have := congrArg List.length hd
        simp at this; omega
      have e := List.drop_eq_getElem_cons hlt
      rw [hd] at e
      obtain ⟨e1, e2⟩ := List.cons.inj e
      have hx : l[i]? = some x := by rw [e1]; simp [hlt]
      cases hst' : stop i with
      | some r =>
        obtain ⟨h1, h2⟩ := hst i x γ r hx h hj hst'
        have run : forLoop s f (x :: m) γ S = r := by
          unfold forLoop
          rw [R.when_true hs, h1]
          rcases h2 with ⟨y, S', rfl⟩ | ⟨y, S', rfl⟩ <;> rfl
        refine ⟨fun q r' e => ?_, fun e => ?_⟩
        · obtain ⟨g1, g2, g3⟩ := fst1_some e
          have : q = i := by
            rcases Nat.lt_trichotomy q i with z | z | z
            · rw [hj q z] at g2; cases g2
            · exact z
            · rw [g3 i z] at hst'; cases hst'
          subst this
          rw [hst'] at g2
          cases g2
          exact run
        · rw [fst1_none e i hlt] at hst'; cases hst'
      | none =>
        have hj' : ∀ j, j < i + 1 → stop j = none := fun j hj1 => by
          by_cases z : j = i
          · rw [z]; exact hst'
          · exact hj j (by omega)
        obtain ⟨γ', h1, h2⟩ := hgo i x γ hx h fun j hj1 => hj' j (by omega)
        have run : forLoop s f (x :: m) γ S = forLoop s f m γ' S := by
          show R.when (s.ok S) _ = _
          rw [R.when_true hs, h1]
          rfl
        obtain ⟨a, b⟩ := ih (i + 1) e2.symm hlt hj' γ' h2
        rw [run]
        exact ⟨a, b⟩
  exact key l 0 rfl (Nat.zero_le _) (fun j hj => by omega) γ h0
end Pg

namespace K03
open PySem PySem.Spec L2 Mi Pg
/-! ### texts by their signs -/
def sx (l : List Nat) : Str := ⟨l.toArray⟩
def tM (l : List Nat) : M := .str (sx l)
theorem sx_len (l : List Nat) : (sx l).length = l.length := by simp [sx, Str.length]
theorem sx_tl (l : List Nat) : (sx l).cps.toList = l := by simp [sx]
theorem signs_sx (l : List Nat) : signs (sx l) = l.map fun c => tM [c] := by
  unfold signs
  rw [sx_tl]
  rfl
theorem sx_inj {a b : List Nat} (h : sx a = sx b) : a = b := by rw [← sx_tl a, h, sx_tl]
theorem sx_of {x : Str} {l : List Nat} (h : x.cps.toList = l) : x = sx l := TL.ext_tl (h.trans (sx_tl l).symm)
theorem sx_app (a b : List Nat) : sx a ++ sx b = sx (a ++ b) := sx_of (by
  have := TL.tl_append (sx a) (sx b)
  simp only [TL.tl, sx_tl] at this
  exact this)
def dig (c : Nat) : Bool := decide (48 ≤ c ∧ c ≤ 57)
theorem digits_tl : (Str.ofString "0123456789").cps.toList = [48, 49, 50, 51, 52, 53, 54, 55, 56, 57] := by decide +kernel
theorem inS_dig (c : Nat) : inS (sx [c]) (Str.ofString "0123456789") = dig c := by
  have h : inS (sx [c]) (Str.ofString "0123456789") = decide (c ∈ (Str.ofString "0123456789").cps.toList) := PySem.StrLaws.found_one _ c
  rw [h, digits_tl]
  unfold dig
  rw [decide_eq_decide]
  simp only [List.mem_cons, List.not_mem_nil, or_false]
  omega
/-- n figures at most -/
def fig (n : Nat) (l : List Nat) : Bool := decide (0 < l.length ∧ l.length ≤ n) && l.all dig
def val (l : List Nat) : Int := ((NumText.digitsVal l : Nat) : Int)
theorem fig_int {n : Nat} {l : List Nat} (h : fig n l = true) (hn : n ≤ 640) : PySem.intText? (sx l) = some (val l) ∧ (sx l).length ≤ 640 := by
  unfold fig at h
  simp only [Bool.and_eq_true, decide_eq_true_eq] at h
  refine ⟨SX.int_S ?_ ?_ (by omega), by rw [sx_len]; omega⟩
  · rw [List.all_eq_true] at h ⊢
    intro c hc
    have := h.2 c hc
    unfold dig at this
    rw [decide_eq_true_eq] at this
    simp [this]
  · rintro rfl
    simp at h
theorem len_t (l : List Nat) (hl : l.length ≤ 1000) (S : Store) : biop .len [tM l] S = .ok (.int l.length) S := by
  show R.when ((sx l).length ≤ big) (R.ok (M.int (sx l).length) S) = _
  rw [sx_len, R.when_true (by unfold big; omega)]
@[simp] theorem pl_t (l : List Nat) : M.plain (tM l) = true := rfl
theorem d0 (S : Store) : Str.ofString "0123456789" = Str.ofString "0123456789" := rfl
theorem any_sgn {k : Nat} {γ : Mi.Env} {S : Store} {i : Nat} {l : List Nat} {e : C} (hb : l.length ≤ 1000) (p : Nat → Bool)
    (he : ∀ c, ev (evalFn Φ k) e ((wipeE γ [i]).set i (some (tM [c]))) S = .ok (.bl (p c)) S) : anyRun (evalFn Φ k) γ S true (.nm i) .no e [i] ⟨signs (sx l), .tup [], []⟩ = .ok (.bl (l.all p)) S := by
  have := any_pure (call := evalFn Φ k) (γ := γ) (S := S) (neg := true) (tg := .nm i) (ifs := .no) (e := e) (own := [i]) (s := ⟨signs (sx l), .tup [], []⟩) l (fun c => tM [c]) p (signs_sx l) (by unfold big; omega) rfl fun c hc => by
    unfold turnP
    rw [bt_nm, R.of_some, q_tno, R.bind_ok, if_pos rfl, he c]
    rfl
  simpa using this
theorem sgnM_t (l : List Nat) (hl : l.length ≤ 1000) (S : Store) : sgnM (tM l) S = .ok ⟨signs (sx l), .tup [], []⟩ S := by
  show R.when ((sx l).length ≤ big) _ = _
  rw [sx_len, R.when_true (by unfold big; omega)]
theorem figs_eq (k : Nat) (l : List Nat) (hl : l.length ≤ 1000) : evalFn Φ (k + 1) "are_figures" [tM l] [] = .ok (.bl (fig 9 l)) [] := by
  have hΦ : Φ "are_figures" = some d_are_figures := by rfl
  rw [evalFn]
  simp only [hΦ]
  have ea : ∀ S, anyRun (evalFn Φ k) [some (tM l), none] S true (.nm 1) .no (.sin false (.var 1) (.cstS "DIGITS" "0123456789")) [1] ⟨signs (sx l), .tup [], []⟩ = .ok (.bl (l.all dig)) S := fun S =>
    any_sgn hl dig fun c => by
      simp only [wipeE, List.set_cons_succ, List.set_cons_zero, q_sin, q_var, varM_s, varM_0, R.bind_ok, q_cstS]
      show R.ok (M.bl (if false = true then !inS (sx [c]) (Str.ofString "0123456789") else inS (sx [c]) (Str.ofString "0123456789"))) S = _
      rw [if_neg Bool.false_ne_true, inS_dig]
  unfold fig
  by_cases h0 : 0 < l.length
  · have h0' : (0 : Int) < (l.length : Int) := by omega
    by_cases h9 : l.length ≤ 9
    · have h9' : (l.length : Int) ≤ 9 := by omega
      simp [d_are_figures, len_t l hl, c_lt, c_le, h0', h9', sgnM_t l hl, ea, h0, h9, R.when]
    · have h9' : ¬ (l.length : Int) ≤ 9 := by omega
      simp [d_are_figures, len_t l hl, c_lt, c_le, h0', h9', h0, h9, R.when]
  · have h0' : ¬ (0 : Int) < (l.length : Int) := by omega
    have h00 : l.length = 0 := by omega
    simp [d_are_figures, len_t l hl, c_lt, c_le, h00, R.when]
theorem figs_call (k : Nat) (l : List Nat) (hl : l.length ≤ 1000) (S : Store) : callM (evalFn Φ (k + 1)) true "are_figures" [tM l] S = .ok (.bl (fig 9 l)) S :=
  pcall (by simp [M.plain.go]) (figs_eq k l hl) rfl
theorem fst1_all (l : List Nat) (p : Nat → Bool) {σ : Type} (x : σ) : (fst1 (fun i => if (l.map p)[i]? = some false then some x else none) l.length = none ∧ l.all p = true) ∨ (∃ i, fst1 (fun i => if (l.map p)[i]? = some false then some x else none) l.length = some (i, x)) ∧ l.all p = false := by
  cases h : fst1 (fun i => if (l.map p)[i]? = some false then some x else none) l.length with
  | none =>
    refine .inl ⟨rfl, List.all_eq_true.mpr fun a ha => ?_⟩
    obtain ⟨i, hi, rfl⟩ := List.getElem_of_mem ha
    have := fst1_none h i hi
    have e : (l.map p)[i]? = some (p l[i]) := by simp [hi]
    rw [e] at this
    cases hp : p l[i] with
    | true => rfl
    | false => rw [hp] at this; simp at this
  | some q =>
    obtain ⟨i, y⟩ := q
    obtain ⟨h1, h2, _⟩ := fst1_some h
    refine .inr ⟨⟨i, ?_⟩, ?_⟩
    · split at h2
      · cases h2; rfl
      · cases h2
    · have e : (l.map p)[i]? = some (p l[i]) := by simp [h1]
      rw [e] at h2
      split at h2
      · rename_i q
        have q : p l[i] = false := Option.some.inj q
        rw [Bool.eq_false_iff]
        intro ha
        rw [List.all_eq_true.mp ha _ (List.getElem_mem h1)] at q
        cases q
      · cases h2
abbrev fB : Sms := match d__law_figures.body with | .cons (.for_ _ _ b) _ => b | _ => .nil
theorem lfig_eq (k : Nat) (l : List Nat) (n : Nat) (hl : l.length ≤ 1000) : evalFn Φ (k + 1) "_law_figures" [tM l, .int (n : Int)] [] = .ok (.bl (fig n l)) [] := by
  have hΦ : Φ "_law_figures" = some d__law_figures := by rfl
  rw [evalFn]
  simp only [hΦ]
  have b1 : ∀ (c : Nat) (c2 : Option M), exs (evalFn Φ k) fB [some (tM l), some (.int (n : Int)), some (tM [c])] [] = if dig c = true then .ok (.nx [some (tM l), some (.int (n : Int)), some (tM [c])]) [] else .ok (.ret (.bl false)) [] := fun c c2 => by
    have es : ∀ S, sinop true (tM [c]) (.str (Str.ofString "0123456789")) S = .ok (.bl (!dig c)) S := fun S => by
      show R.ok (M.bl (if true = true then !inS (sx [c]) (Str.ofString "0123456789") else _)) S = _
      rw [if_pos rfl, inS_dig]
    cases h : dig c <;> simp [fB, d__law_figures, es, t_bl, h]
  obtain ⟨s1, s2⟩ := scan (s := ⟨signs (sx l), .tup [], []⟩) (f := fun x γ S => .of (bindT (.nm 2) x γ) fun γ1 => exs (evalFn Φ k) fB γ1 S) (S := []) rfl (l.map fun c => tM [c]) (fun _ γ => ∃ c2, γ = [some (tM l), some (.int (n : Int)), c2]) (fun i => if (l.map dig)[i]? = some false then some (.ok (.ret (.bl false)) []) else none)
    (by
      rintro i x γ r hx ⟨c2, rfl⟩ hj hs
      rw [List.getElem?_map] at hx
      obtain ⟨c, hc, rfl⟩ := Option.map_eq_some_iff.mp hx
      have e : (l.map dig)[i]? = some (dig c) := by rw [List.getElem?_map, hc]; rfl
      rw [e] at hs
      split at hs
      · rename_i q
        cases hs
        have q : dig c = false := Option.some.inj q
        have := b1 c c2
        rw [q] at this
        exact ⟨this, .inl ⟨_, _, rfl⟩⟩
      · cases hs)
    (by
      rintro i x γ hx ⟨c2, rfl⟩ hj
      rw [List.getElem?_map] at hx
      obtain ⟨c, hc, rfl⟩ := Option.map_eq_some_iff.mp hx
      have e : (l.map dig)[i]? = some (dig c) := by rw [List.getElem?_map, hc]; rfl
      have hs := hj i (Nat.le_refl _)
      rw [e] at hs
      have := b1 c c2
      cases hd : dig c with
      | false => rw [hd] at hs; simp at hs
      | true => rw [hd] at this; exact ⟨_, this, _, rfl⟩)
    [some (tM l), some (.int (n : Int)), none] ⟨none, rfl⟩
  rw [List.length_map] at s1 s2
  have hsg : signs (sx l) = l.map fun c => tM [c] := signs_sx l
  rcases fst1_all l dig (R.ok (F.ret (.bl false)) [] : R F) with ⟨h1, h2⟩ | ⟨⟨i, h1⟩, h2⟩
  · obtain ⟨γ', ⟨c2, rfl⟩, e⟩ := s2 h1
    have rn : forRun (evalFn Φ k) [some (tM l), some (.int (n : Int)), none] [] (.nm 2) fB ⟨signs (sx l), .tup [], []⟩ = .ok (.nx [some (tM l), some (.int (n : Int)), c2]) [] := by unfold forRun; rw [hsg] at e ⊢; exact e
    simp only [d__law_figures, fB] at rn
    unfold fig
    rw [h2]
    by_cases h0 : 0 < l.length
    · have h0' : (0 : Int) < (l.length : Int) := by omega
      by_cases h9 : l.length ≤ n
      · have h9' : (l.length : Int) ≤ n := by omega
        simp [d__law_figures, sgnM_t l hl, rn, len_t l hl, c_lt, c_le, h0', h9, h0, R.when]
      · have h9' : ¬ (l.length : Int) ≤ n := by omega
        simp [d__law_figures, sgnM_t l hl, rn, len_t l hl, c_lt, c_le, h0', h9, h0, R.when]
    · have h0' : ¬ (0 : Int) < (l.length : Int) := by omega
      have h00 : l.length = 0 := by omega
      simp [d__law_figures, sgnM_t l hl, rn, len_t l hl, c_lt, c_le, h00, R.when]
  · have e := s1 i _ h1
    have rn : forRun (evalFn Φ k) [some (tM l), some (.int (n : Int)), none] [] (.nm 2) fB ⟨signs (sx l), .tup [], []⟩ = .ok (.ret (.bl false)) [] := by unfold forRun; rw [hsg] at e ⊢; exact e
    simp only [d__law_figures, fB] at rn
    unfold fig
    rw [h2, Bool.and_false]
    simp [d__law_figures, sgnM_t l hl, rn, R.when]
theorem lfig_call (k : Nat) (l : List Nat) (n : Nat) (hl : l.length ≤ 1000) (S : Store) : callM (evalFn Φ (k + 1)) true "_law_figures" [tM l, .int (n : Int)] S = .ok (.bl (fig n l)) S :=
  pcall (by simp [M.plain.go, M.plain]) (lfig_eq k l n hl) rfl
end K03

namespace K03
open PySem PySem.Spec L2 Mi Pg
/-! ### words -/
def cutW (c : Nat) (l : List Nat) : List (List Nat) := TL.spl [c] 0 [] l
theorem pre1 (c d : Nat) (r : List Nat) : TL.pre [c] (d :: r) = (d == c) := by simp [TL.pre]
theorem spl_cons (c d : Nat) (acc r : List Nat) : TL.spl [c] 0 acc (d :: r) = if d = c then acc :: TL.spl [c] 0 [] r else TL.spl [c] 0 (acc ++ [d]) r := by
  by_cases h : d = c
  · rw [if_pos h, TL.spl_hit (by rw [pre1]; simp [h])]
    rfl
  · rw [if_neg h, TL.spl_miss (by rw [pre1]; simp [h])]
theorem spl_len (c : Nat) : ∀ (l acc : List Nat), ∀ w ∈ TL.spl [c] 0 acc l, w.length ≤ acc.length + l.length
  | [], acc, w, h => by
    rw [TL.spl_nil] at h
    rw [List.mem_singleton.mp h]
    simp
  | d :: l, acc, w, h => by
    rw [spl_cons] at h
    split at h
    · rcases List.mem_cons.mp h with rfl | h
      · omega
      · have := spl_len c l [] w h
        simp only [List.length_nil, List.length_cons] at this ⊢
        omega
    · have := spl_len c l (acc ++ [d]) w h
      simp only [List.length_append, List.length_cons, List.length_nil] at this ⊢
      omega
theorem cut_len (c : Nat) (l : List Nat) : ∀ w ∈ cutW c l, w.length ≤ l.length := fun w h => by
  have := spl_len c l [] w h
  simpa using this
theorem cut_cnt (c : Nat) : ∀ (l acc : List Nat), (TL.spl [c] 0 acc l).length ≤ l.length + 1
  | [], acc => by rw [TL.spl_nil]; simp
  | d :: l, acc => by
    rw [spl_cons]
    split
    · have := cut_cnt c l []
      simp only [List.length_cons]
      omega
    · have := cut_cnt c l (acc ++ [d])
      simp only [List.length_cons]
      omega
theorem split_ok (c : Nat) (hc : c < 256) (q : String) (hq : Str.ofString q = sx [c]) (l : List Nat) (hl : l.length ≤ 900) (S : Store) : splitop false (sx l) (.str (Str.ofString q)) S = .ok (.lst ((cutW c l).map tM)) S := by
  rw [hq]
  have e1 : (Txt.split (sx l) (sx [c])).map TL.tl = TL.spl [c] 0 [] l := by
    have := TL.split_spl (sx l) (sx [c]) (by show (sx [c]).cps.toList ≠ []; rw [sx_tl]; simp) (TL.kind_ok (by simp [sx, hc]))
    rw [show TL.tl (sx [c]) = [c] from sx_tl _, show TL.tl (sx l) = l from sx_tl _] at this
    exact this
  have e2 : Txt.split (sx l) (sx [c]) = (cutW c l).map sx := by
    have : (Txt.split (sx l) (sx [c])).map (sx ∘ TL.tl) = (cutW c l).map sx := by
      rw [← List.map_map, e1]
      rfl
    rw [← this]
    have : (sx ∘ TL.tl) = id := funext fun x => (sx_of rfl).symm
    rw [this, List.map_id]
  show R.when ((sx l).length + 2 ≤ big ∧ ((sx [c]).length == 0) = false) (mkL false ((Txt.split (sx l) (sx [c])).map M.str) S) = _
  rw [R.when_true ⟨by rw [sx_len]; unfold big; omega, by rw [sx_len]; rfl⟩, e2, List.map_map]
  rfl
def wB (q : String) : Sms := (.cons (.ife (.v (.cmp .eq (.var 2) (.con (.str q)))) (.cons (.exp (.meth .append (.var 1) (.cons (.con (.str "")) .nil))) .nil) (.cons (.seti (.var 1) (.neg (.con (.int 1))) (.bin false .add (.ix (.var 1) (.neg (.con (.int 1)))) (.var 2))) .nil)) .nil)
theorem empty_sx : Str.ofString "" = sx [] := by decide +kernel
theorem at_end (xs : List M) (m : M) : ixN (xs ++ [m]).length (-1) = some xs.length := by
  unfold ixN
  rw [if_neg (by decide), if_pos (by simp; omega)]
  congr 1
  simp
  omega
set_option maxHeartbeats 0 in
theorem words_ok (k : Nat) (q : String) (c : Nat) (hq : Str.ofString q = sx [c]) (l : List Nat) (hl : l.length ≤ 900) (rest : Mi.Env) {P : F → Store → Prop} (hP : ∀ c2, P (.nx (some (tM l) :: some (.ref 0) :: c2 :: rest)) [.lst ((cutW c l).map tM)]) :
    Wp (forRun (evalFn Φ k) (some (tM l) :: some (.ref 0) :: none :: rest) [.lst [tM []]] (.nm 2) (wB q) ⟨signs (sx l), .tup [], []⟩) P := by
  unfold forRun
  refine wp_for (fun i γ S => ∃ (dn : List (List Nat)) (acc : List Nat) (c2 : Option M), γ = some (tM l) :: some (.ref 0) :: c2 :: rest ∧ S = [.lst ((dn ++ [acc]).map tM)] ∧ cutW c l = dn ++ TL.spl [c] 0 acc (l.drop i) ∧ acc.length ≤ i ∧ dn.length ≤ i) _ (by rintro i γ S _ _; rfl) ?_ ?_ _ _ ⟨[], [], none, rfl, rfl, rfl, by simp, by simp⟩
  · rintro i x γ S hx ⟨dn, acc, c2, rfl, rfl, hc, ha, hd⟩
    have hx : (signs (sx l))[i]? = some x := hx
    rw [signs_sx, List.getElem?_map] at hx
    obtain ⟨d, hd', rfl⟩ := Option.map_eq_some_iff.mp hx
    obtain ⟨hi, e⟩ := List.getElem?_eq_some_iff.mp hd'
    have edrop : l.drop i = d :: l.drop (i + 1) := by rw [List.drop_eq_getElem_cons hi, e]
    rw [edrop, spl_cons] at hc
    rw [bt_nm, R.of_some]
    simp only [List.set_cons_succ, List.set_cons_zero, wB]
    have ec : ∀ S, cmpop .eq (tM [d]) (.str (Str.ofString q)) S = .ok (.bl (decide (d = c))) S := fun S => by
      show R.ok (M.bl (decide (sx [d] = Str.ofString q))) S = _
      rw [hq]
      congr 2
      rw [decide_eq_decide]
      exact ⟨fun h => by have := sx_inj h; simpa using this, fun h => by rw [h]⟩
    rw [q_scons, wp_bind, q_ifS, q_Tv, q_cmp]
    simp only [q_var, varM_s, varM_0, q_cstr, R.bind_ok, ec, t_bl, R.of_some]
    by_cases h : d = c
    · rw [if_pos h] at hc
      have hlo : lstOf [O.lst ((dn ++ [acc]).map tM)] (.ref 0) = some ((dn ++ [acc]).map tM) := rfl
      have hap : meop .append (.ref 0) [.str (Str.ofString "")] [O.lst ((dn ++ [acc]).map tM)] = .ok .non [.lst ((dn ++ [acc] ++ [[]]).map tM)] := by
        have hb : ((dn ++ [acc]).map tM).length < big := by unfold big; simp; omega
        simp only [meop, List.getElem?_cons_zero, R.of_some, R.when_true hb, List.set_cons_zero, empty_sx]
        rw [List.map_append (l₁ := dn ++ [acc])]
        rfl
      simp only [h, decide_true, if_true]
      rw [q_scons, wp_bind, q_exp, q_meth]
      simp only [q_var, varM_s, varM_0, R.bind_ok, hlo, R.of_some, q_cons, q_nil, q_cstr, hap, wp_ok, nextM_nx, q_snil]
      exact ⟨dn ++ [acc], [], _, rfl, rfl, by rw [hc]; simp, by simp, by simp; omega⟩
    · rw [if_neg h] at hc
      have hix : ixop (.ref 0) (.int (-1)) [O.lst ((dn ++ [acc]).map tM)] = .ok (tM acc) [O.lst ((dn ++ [acc]).map tM)] := by
        have h1 : dicOf [O.lst ((dn ++ [acc]).map tM)] (.ref 0) = none := rfl
        have h2 : seqOf [O.lst ((dn ++ [acc]).map tM)] (.ref 0) = some (dn.map tM ++ [tM acc]) := by
          show some ((dn ++ [acc]).map tM) = _
          rw [List.map_append]; rfl
        simp only [ixop, h1, h2, R.of_some]
        unfold atI
        rw [at_end]
        simp
      have had : binop false .add (tM acc) (tM [d]) [O.lst ((dn ++ [acc]).map tM)] = .ok (tM (acc ++ [d])) [O.lst ((dn ++ [acc]).map tM)] := by
        show R.when ((sx acc).length + (sx [d]).length ≤ big) (R.ok (M.str (sx acc ++ sx [d])) _) = _
        rw [R.when_true (by rw [sx_len, sx_len]; unfold big; simp; omega), sx_app]
        rfl
      have hst : setiop (.ref 0) (.int (-1)) (tM (acc ++ [d])) [O.lst ((dn ++ [acc]).map tM)] = .ok () [.lst ((dn ++ [acc ++ [d]]).map tM)] := by
        have e1 : (dn ++ [acc]).map tM = dn.map tM ++ [tM acc] := by rw [List.map_append]; rfl
        simp only [setiop, List.getElem?_cons_zero, R.of_some, e1, at_end, List.set_cons_zero]
        congr 2
        rw [List.map_append, List.set_append_right _ _ (by simp)]
        simp
      simp only [h, decide_false, Bool.false_eq_true, if_false]
      rw [q_scons, wp_bind, q_seti, q_bin, q_ix]
      simp only [q_neg, q_var, varM_s, varM_0, q_cint, R.bind_ok, negM_int, hix, had, hst, wp_ok, nextM_nx, q_snil]
      exact ⟨dn, acc ++ [d], _, rfl, by first | rfl | trivial, hc, by simp; omega, by omega⟩
  · rintro γ S ⟨dn, acc, c2, rfl, rfl, hc, ha, hd⟩
    have el : ((⟨signs (sx l), .tup [], []⟩ : Src).items).length = l.length := by show (signs (sx l)).length = _; rw [signs_sx, List.length_map]
    rw [el, List.drop_length, TL.spl_nil] at hc
    rw [← hc]
    exact hP c2
/-! ### times -/
def t3 (d h m : Int) (last : List Nat) : Option Int := if last.length = 2 ∧ h < 24 ∧ m < 60 then some (d * 1440 + h * 60 + m) else none
def timeW : List (List Nat) → Option Int
  | [a, b] => if fig 9 a = true ∧ fig 9 b = true then t3 0 (val a) (val b) b else none
  | [a, b, c] => if fig 9 a = true ∧ fig 9 b = true ∧ fig 9 c = true then t3 (val a) (val b) (val c) c else none
  | _ => none
def timeV (l : List Nat) : Option Int := timeW (cutW 58 l)
def optM : Option Int → M
  | some v => .int v
  | none => .non
theorem all_figs {k : Nat} {γ : Mi.Env} {S : Store} {i : Nat} {ws : List (List Nat)} {s : Src} (hs : s.items = ws.map tM) (hok : s.ok S) (hb : ws.length ≤ 1000) (hw : ∀ w ∈ ws, w.length ≤ 1000) (hv : ∀ w S, varM ((wipeE γ [i]).set i (some (tM w))) i S = .ok (tM w) S) :
    anyRun (evalFn Φ (k + 1)) γ S true (.nm i) .no (.call true "are_figures" (.cons (.var i) .nil)) [i] s = .ok (.bl (ws.all (fig 9))) S := by
  have := any_pure (call := evalFn Φ (k + 1)) (γ := γ) (S := S) (neg := true) (tg := .nm i) (ifs := .no) (e := .call true "are_figures" (.cons (.var i) .nil)) (own := [i]) (s := s) ws tM (fig 9) hs (by unfold big; omega) hok fun w hw' => by
    unfold turnP
    rw [bt_nm, R.of_some, q_tno, R.bind_ok, if_pos rfl, q_call, q_cons, q_var, hv w]
    simp only [R.bind_ok, q_nil, figs_call k w (hw w hw')]
    rfl
  simpa using this
theorem all_ints {k : Nat} {γ : Mi.Env} {S : Store} {i : Nat} {ws : List (List Nat)} {s : Src} (hs : s.items = ws.map tM) (hok : s.ok S) (hb : ws.length ≤ 1000) (hf : ∀ w ∈ ws, fig 9 w = true) (hv : ∀ w S, varM ((wipeE γ [i]).set i (some (tM w))) i S = .ok (tM w) S) :
    lcRun (evalFn Φ k) γ S (.nm i) .no (.bi .int (.cons (.var i) .nil)) [i] s = .ok (ws.map fun w => .int (val w)) S := by
  refine lc_all ws tM (fun w => .int (val w)) hs (by unfold big; omega) hok fun w hw => ?_
  obtain ⟨e1, e2⟩ := fig_int (hf w hw) (by decide)
  unfold turnP
  rw [bt_nm, R.of_some, q_tno, R.bind_ok, if_pos rfl, q_bi, q_cons, q_var, hv w]
  simp only [R.bind_ok, q_nil]
  show ((biop .int [M.str (sx w)] S).bind _).calm = _
  simp only [biop, R.when_true e2, e1, R.of_some]
  rfl
theorem colon : Str.ofString ":" = sx [58] := by decide +kernel
theorem timeW_none {ws : List (List Nat)} (h : ¬ (ws.length = 2 ∨ ws.length = 3) ∨ ws.all (fig 9) = false) : timeW ws = none := by
  unfold timeW
  split
  · rename_i a b
    rw [if_neg]
    rcases h with h | h
    · simp at h
    · intro ⟨h1, h2⟩
      simp [h1, h2] at h
  · rename_i a b c
    rw [if_neg]
    rcases h with h | h
    · simp at h
    · intro ⟨h1, h2, h3⟩
      simp [h1, h2, h3] at h
  · rfl
theorem val_nn (l : List Nat) : 0 ≤ val l := Int.natCast_nonneg _
set_option maxHeartbeats 0 in
theorem told_time_eq (k : Nat) (l : List Nat) (hl : l.length ≤ 900) : evalFn Φ (k + 2) "told_time" [tM l] [] = .ok (optM (timeV l)) [] := by
  have hΦ : Φ "told_time" = some d_told_time := by rfl
  rw [evalFn]
  simp only [hΦ]
  have hwl := cut_len 58 l
  have hwc : (cutW 58 l).length ≤ l.length + 1 := cut_cnt 58 l []
  have hsp := fun S => split_ok 58 (by decide) ":" colon l hl S
  have hst : strOf (tM l) = some (sx l) := rfl
  unfold timeV
  obtain ⟨ws, hws⟩ : ∃ ws, cutW 58 l = ws := ⟨_, rfl⟩
  rw [hws] at hwl hwc hsp ⊢
  have ha : ∀ c2 c3 c4 S, anyRun (evalFn Φ (k + 1)) [some (tM l), some (.lst (ws.map tM)), c2, c3, c4, none] S true (.nm 5) .no (.call true "are_figures" (.cons (.var 5) .nil)) [5] ⟨ws.map tM, .lst (ws.map tM), ws.map tM⟩ = .ok (.bl (ws.all (fig 9))) S := fun c2 c3 c4 S =>
    all_figs rfl rfl (by omega) (fun w h => by have := hwl w h; omega) fun w S => by simp [wipeE]
  have hin : ∀ (j : Int) S, cmpop .notin (.int j) (.tup [.int 2, .int 3]) S = .ok (.bl (!decide (j = 2 ∨ j = 3))) S := fun j S => by
    have h2 : dicOf S (.tup [.int 2, .int 3]) = none := rfl
    have h3 : (seqOf S (.tup [.int 2, .int 3])).bind intsOf = some [2, 3] := rfl
    simp only [cmpop, h2, h3, R.of_some, List.mem_cons, List.not_mem_nil, or_false]
  by_cases h23 : ws.length = 2 ∨ ws.length = 3
  · have h23' : ((ws.length : Int) = 2 ∨ (ws.length : Int) = 3) := by omega
    cases hf : ws.all (fig 9) with
    | false =>
      rw [timeW_none (.inr hf)]
      rw [hf] at ha
      simp [d_told_time, hst, hsp, bi_lenl, R.when, big, hin, h23', t_bl, ha, optM]
    | true =>
      rw [hf] at ha
      have hf' := List.all_eq_true.mp hf
      have hi : ∀ c2 c3 c4 S, lcRun (evalFn Φ (k + 1)) [some (tM l), some (.lst (ws.map tM)), c2, c3, c4, none] S (.nm 5) .no (.bi .int (.cons (.var 5) .nil)) [5] ⟨ws.map tM, .lst (ws.map tM), ws.map tM⟩ = .ok (ws.map fun w => .int (val w)) S := fun c2 c3 c4 S =>
        all_ints rfl rfl (by omega) hf' fun w S => by simp [wipeE]
      have fin : ∀ (d h m : Int) (w : List Nat), w.length ≤ 900 → ixop (.lst (ws.map tM)) (.int (-1)) [] = .ok (tM w) [] → exs (evalFn Φ (k + 1)) (match d_told_time.body with | .cons _ (.cons _ (.cons _ r)) => r | _ => .nil) [some (tM l), some (.lst (ws.map tM)), some (.int d), some (.int h), some (.int m), none] [] = .ok (.ret (optM (t3 d h m w))) [] := fun d h m w hw hx => by
        have hlw := len_t w (by omega)
        unfold t3
        by_cases c1 : w.length = 2
        · by_cases c2 : h < 24
          · by_cases c3 : m < 60
            · rw [if_pos ⟨c1, c2, c3⟩]
              have c2' : ¬ (24 : Int) ≤ h := by omega
              have c3' : ¬ (60 : Int) ≤ m := by omega
              simp [d_told_time, hx, hlw, c1, c_ne, c_ge, t_bl, c2', c3', b_add, b_mul, R.when, cmul_r, optM]
            · rw [if_neg fun q => c3 q.2.2]
              have c2' : ¬ (24 : Int) ≤ h := by omega
              have c3' : (60 : Int) ≤ m := by omega
              simp [d_told_time, hx, hlw, c1, c_ne, c_ge, t_bl, c2', c3', optM]
          · rw [if_neg fun q => c2 q.2.1]
            have c2' : (24 : Int) ≤ h := by omega
            simp [d_told_time, hx, hlw, c1, c_ne, c_ge, t_bl, c2', optM]
        · rw [if_neg fun q => c1 q.1]
          have c1' : ((w.length : Int) == 2) = false := beq_eq_false_iff_ne.mpr (by omega)
          simp [d_told_time, hx, hlw, c1', c_ne, t_bl, optM]
      have cut3 : ∀ d h m : Int, (ws.length = 2 ∧ (.int 0 :: ws.map fun w => M.int (val w)) = [.int d, .int h, .int m]) ∨ (ws.length = 3 ∧ (ws.map fun w => M.int (val w)) = [.int d, .int h, .int m]) → exs (evalFn Φ (k + 1)) d_told_time.body [some (tM l), none, none, none, none, none] [] = exs (evalFn Φ (k + 1)) (match d_told_time.body with | .cons _ (.cons _ (.cons _ r)) => r | _ => .nil) [some (tM l), some (.lst (ws.map tM)), some (.int d), some (.int h), some (.int m), none] [] := fun d h m hd => by
        have hbt : ∀ γ, bindT (.tu [2, 3, 4]) (.lst [.int d, .int h, .int m]) γ = some (bindT.go [2, 3, 4] [.int d, .int h, .int m] γ) := fun _ => rfl
        have hsum : ∀ S, (binop false .mul (.lst [.int 0]) (.int (3 - (ws.length : Int))) S).bind (fun x S => binop false .add x (.lst (ws.map fun w => M.int (val w))) S) = .ok (.lst [.int d, .int h, .int m]) S := fun S => by
          rcases hd with ⟨h1, h2⟩ | ⟨h1, h2⟩
          · rw [h1]
            show R.bind (R.ok (M.lst [.int 0]) S) _ = _
            rw [R.bind_ok, b_lst, R.when_true (by simp [big, h1]), ← h2]; rfl
          · rw [h1]
            show R.bind (R.ok (M.lst []) S) _ = _
            rw [R.bind_ok, b_lst, R.when_true (by simp [big, h1]), ← h2]; rfl
        have m1 : ∀ (x : List M) S, mkL false x S = .ok (.lst x) S := fun _ _ => rfl
        simp only [d_told_time]
        rw [q_scons, q_set]
        simp only [q_split, q_var, varM_s, varM_0, R.bind_ok, hst, R.of_some, q_cstr, hsp, nextM_nx, List.set_cons_succ, List.set_cons_zero]
        rw [q_scons, q_ifS]
        simp only [q_Tor, q_Tone, q_Tnot, q_Tv, q_cmp, q_bi, q_cons, q_nil, q_var, varM_s, varM_0, R.bind_ok, bi_lenl, List.length_map, q_tup, q_cint, List.length_cons, List.length_nil, Nat.reduceAdd, R.when_true (show (2 : Nat) ≤ big by decide), hin, decide_eq_true h23', Bool.not_true, t_bl, R.of_some, Bool.false_eq_true, if_false, q_anyg, q_Ival, seq_lst, ha, q_snil, nextM_nx]
        rw [q_scons, q_unp]
        simp only [q_bin, q_bi, q_cons, q_nil, q_lst, q_lc, q_Ival, q_var, varM_s, varM_0, R.bind_ok, bi_lenl, List.length_map, q_cint, List.length_cons, List.length_nil, Nat.reduceAdd, R.when_true (show (1 : Nat) ≤ big by decide), m1, b_sub, seq_lst, R.of_some, hi]
        rw [hsum]
        simp only [R.bind_ok, hbt, R.of_some, nextM_nx, bindT.go, List.set_cons_succ, List.set_cons_zero]
      have main : ∀ (d h m : Int) (w : List Nat), (ws.length = 2 ∧ (.int 0 :: ws.map fun w => M.int (val w)) = [.int d, .int h, .int m]) ∨ (ws.length = 3 ∧ (ws.map fun w => M.int (val w)) = [.int d, .int h, .int m]) → w.length ≤ 900 → ixop (.lst (ws.map tM)) (.int (-1)) [] = .ok (tM w) [] → timeW ws = t3 d h m w →
          R.when (([tM l] : List M).length = d_told_time.ps.length) ((exs (evalFn Φ (k + 1)) d_told_time.body (([tM l] : List M).map some ++ List.replicate (d_told_time.ns - d_told_time.ps.length) none) []).bind Mi.fin) = .ok (optM (timeW ws)) [] := fun d h m w h1 h2 h3 h4 => by
        rw [R.when_true (show ([tM l] : List M).length = d_told_time.ps.length from rfl)]
        show (exs (evalFn Φ (k + 1)) d_told_time.body [some (tM l), none, none, none, none, none] []).bind Mi.fin = _
        rw [cut3 d h m h1, fin d h m w h2 h3, h4]
        rfl
      match ws, h23, hwl, hf', main with
      | [a, b], _, hwl, hf', main =>
        refine main 0 (val a) (val b) b (.inl ⟨rfl, rfl⟩) (by have := hwl b (by simp); omega) rfl ?_
        exact if_pos ⟨hf' a (by simp), hf' b (by simp)⟩
      | [a, b, c], _, hwl, hf', main =>
        refine main (val a) (val b) (val c) c (.inr ⟨rfl, rfl⟩) (by have := hwl c (by simp); omega) rfl ?_
        exact if_pos ⟨hf' a (by simp), hf' b (by simp), hf' c (by simp)⟩
      | [], h, _, _, _ => simp at h
      | [a], h, _, _, _ => simp at h
      | a :: b :: c :: d :: r, h, _, _, _ => simp at h
  · have h23' : ¬ ((ws.length : Int) = 2 ∨ (ws.length : Int) = 3) := by omega
    rw [timeW_none (.inl h23)]
    simp [d_told_time, hst, hsp, bi_lenl, R.when, big, hin, h23', t_bl, optM]
end K03

namespace K03
open PySem PySem.Spec L2 Mi Pg
/-! ### the law's own reading of a time -/
def toldM (v : Int) : M := .tup [.str (Str.ofString "told"), .int v]
def lineM (w : String) : M := .tup [.str (Str.ofString "line"), .int 1, .str (Str.ofString w)]
def dueM (w : String) : Option Int → M
  | some v => toldM v
  | none => lineM w
theorem nofig_pos (ws : List (List Nat)) (S : Store) : cmpop .gt (.int ((ws.filter fun w => !fig 9 w).length : Int)) (.int 0) S = .ok (.bl (!ws.all (fig 9))) S := by
  rw [c_gt]
  congr 2
  rw [Bool.eq_iff_iff, decide_eq_true_eq, Bool.not_eq_true', Bool.eq_false_iff]
  constructor
  · intro h ha
    have : (ws.filter fun w => !fig 9 w) = [] := List.filter_eq_nil_iff.mpr fun w hw => by simp [List.all_eq_true.mp ha w hw]
    rw [this] at h
    simp at h
  · intro h
    have hne : (ws.filter fun w => !fig 9 w) ≠ [] := fun e => h (List.all_eq_true.mpr fun w hw => by simpa using List.filter_eq_nil_iff.mp e w hw)
    have := List.length_pos_iff.mpr hne
    omega
theorem no_figs {k : Nat} {γ : Mi.Env} {S : Store} {i : Nat} {ws : List (List Nat)} {s : Src} (hs : s.items = ws.map tM) (hok : s.ok S) (hb : ws.length ≤ 1000) (hw : ∀ w ∈ ws, w.length ≤ 1000) (hv : ∀ w S, varM ((wipeE γ [i]).set i (some (tM w))) i S = .ok (tM w) S) :
    lcRun (evalFn Φ (k + 1)) γ S (.nm i) (.so (.not (.v (.call true "_law_figures" (.cons (.var i) (.cons (.con (.int 9)) .nil)))))) (.var i) [i] s = .ok ((ws.filter fun w => !fig 9 w).map tM) S := by
  refine lc_some ws tM (fun w => !fig 9 w) tM hs (by unfold big; omega) hok fun w hw' => ?_
  have e : ∀ S, callM (evalFn Φ (k + 1)) true "_law_figures" [tM w, .int 9] S = .ok (.bl (fig 9 w)) S := fun S => lfig_call k w 9 (hw w hw') S
  unfold turnP
  rw [bt_nm, R.of_some, q_tso, q_Tnot, q_Tv, q_call, q_cons, q_var, hv w]
  simp only [R.bind_ok, q_cons, q_nil, q_cint, e, t_bl, R.of_some]
  cases fig 9 w
  · simp only [Bool.not_false, if_true, q_var, hv w, R.bind_ok]
    rfl
  · rfl
theorem one_sx (S : Store) : mkL true [.str (Str.ofString "")] S = .ok (.ref S.length) (S ++ [.lst [tM []]]) := by rw [empty_sx]; rfl
set_option maxHeartbeats 0 in
theorem due_time_ok (k : Nat) (l : List Nat) (hl : l.length ≤ 900) : Wp (evalFn Φ (k + 2) "_law_due_time" [tM l] []) fun r _ => r = dueM "time" (timeV l) := by
  have hΦ : Φ "_law_due_time" = some d__law_due_time := by rfl
  refine wp_fn hΦ rfl ?_
  have hwl := cut_len 58 l
  have hwc : (cutW 58 l).length ≤ l.length + 1 := cut_cnt 58 l []
  have hwo := fun {P : F → Store → Prop} hP => words_ok (k + 1) ":" 58 colon l hl [none, none] (P := P) hP
  simp only [wB] at hwo
  unfold timeV
  obtain ⟨ws, hws⟩ : ∃ ws, cutW 58 l = ws := ⟨_, rfl⟩
  rw [hws] at hwl hwc hwo ⊢
  have m1 : ∀ (x : List M) S, mkL false x S = .ok (.lst x) S := fun _ _ => rfl
  have b3 : (3 : Nat) ≤ big := by decide
  have b2 : (2 : Nat) ≤ big := by decide
  simp only [d__law_due_time, List.map_cons, List.map_nil, List.cons_append, List.nil_append, List.length_cons, List.length_nil, List.replicate, Nat.reduceAdd, Nat.reduceSub]
  rw [q_scons, wp_bind, q_set, q_lst]
  simp only [q_cons, q_nil, q_cstr, R.bind_ok, List.length_cons, List.length_nil, Nat.reduceAdd, R.when_true (show (1 : Nat) ≤ big by decide), one_sx, List.nil_append, wp_ok, nextM_nx, List.set_cons_succ, List.set_cons_zero]
  rw [q_scons, wp_bind, q_for, q_Isgn]
  simp only [q_var, varM_s, varM_0, R.bind_ok, sgnM_t l (by omega)]
  refine hwo fun c2 => ?_
  have hsq : seqOf [O.lst (ws.map tM)] (.ref 0) = some (ws.map tM) := rfl
  have hln : biop .len [.ref 0] [O.lst (ws.map tM)] = .ok (.int ws.length) [O.lst (ws.map tM)] := by simp only [biop, hsq, R.of_some, List.length_map]
  have hin : ∀ (j : Int) S, cmpop .notin (.int j) (.tup [.int 2, .int 3]) S = .ok (.bl (!decide (j = 2 ∨ j = 3))) S := fun j S => by
    have h2 : dicOf S (.tup [.int 2, .int 3]) = none := rfl
    have h3 : (seqOf S (.tup [.int 2, .int 3])).bind intsOf = some [2, 3] := rfl
    simp only [cmpop, h2, h3, R.of_some, List.mem_cons, List.not_mem_nil, or_false]
  have ha : ∀ c2 c3, lcRun (evalFn Φ (k + 1)) [some (tM l), some (.ref 0), c2, c3, none] [O.lst (ws.map tM)] (.nm 4) (.so (.not (.v (.call true "_law_figures" (.cons (.var 4) (.cons (.con (.int 9)) .nil)))))) (.var 4) [4] ⟨ws.map tM, .ref 0, ws.map tM⟩ = .ok ((ws.filter fun w => !fig 9 w).map tM) [O.lst (ws.map tM)] := fun c2 c3 =>
    no_figs rfl rfl (by omega) (fun w h => by have := hwl w h; omega) fun w S => by simp [wipeE]
  have hgt := nofig_pos ws
  generalize (ws.filter fun w => !fig 9 w) = Q at ha hgt
  rw [nextM_nx, q_scons, wp_bind, q_ifS]
  simp only [q_Tor, q_Tone, q_Tv, q_cmp, q_bi, q_cons, q_nil, q_lc, q_Ival, q_var, varM_s, varM_0, R.bind_ok, hln, q_tup, q_cint, List.length_cons, List.length_nil, Nat.reduceAdd, R.when_true b2, hin, t_bl, R.of_some, hsq, ha, m1, bi_lenl, List.length_map, hgt]
  by_cases h23 : ws.length = 2 ∨ ws.length = 3
  · have h23' : ((ws.length : Int) = 2 ∨ (ws.length : Int) = 3) := by omega
    simp only [decide_eq_true h23', Bool.not_true, Bool.false_eq_true, if_false, R.bind_ok]
    cases hf : ws.all (fig 9) with
    | false =>
      rw [timeW_none (.inr hf)]
      simp only [Bool.not_false, if_true]
      rw [q_scons, wp_bind, q_ret, q_tup]
      simp only [q_cons, q_nil, q_cstr, q_cint, R.bind_ok, List.length_cons, List.length_nil, Nat.reduceAdd, R.when_true b3, wp_ok, nextM_ret, fin_ret]
      rfl
    | true =>
      have hf' := List.all_eq_true.mp hf
      have hi : ∀ c2 c3, lcRun (evalFn Φ (k + 1)) [some (tM l), some (.ref 0), c2, c3, none] [O.lst (ws.map tM)] (.nm 4) .no (.bi .int (.cons (.var 4) .nil)) [4] ⟨ws.map tM, .ref 0, ws.map tM⟩ = .ok (ws.map fun w => .int (val w)) [O.lst (ws.map tM)] := fun c2 c3 =>
        all_ints rfl rfl (by omega) hf' fun w S => by simp [wipeE]
      simp only [Bool.not_true, Bool.false_eq_true, if_false, q_snil, wp_ok, nextM_nx]
      have main : ∀ (d h m : Int) (w : List Nat), (ws.length = 2 ∧ (.int 0 :: ws.map fun w => M.int (val w)) = [.int d, .int h, .int m]) ∨ (ws.length = 3 ∧ (ws.map fun w => M.int (val w)) = [.int d, .int h, .int m]) → w.length ≤ 900 → ixop (.ref 0) (.int (-1)) [O.lst (ws.map tM)] = .ok (tM w) [O.lst (ws.map tM)] → timeW ws = t3 d h m w →
          Wp (exs (evalFn Φ (k + 1)) (match d__law_due_time.body with | .cons _ (.cons _ (.cons _ r)) => r | _ => .nil) [some (tM l), some (.ref 0), c2, none, none] [O.lst (ws.map tM)]) fun fl S => Wp (Mi.fin fl S) fun r _ => r = dueM "time" (timeW ws) := fun d h m w hd hw hx ht => by
        obtain ⟨zs, hmul, hadd⟩ : ∃ zs, (∀ S, binop false .mul (.lst [.int 0]) (.int (3 - (ws.length : Int))) S = .ok (.lst zs) S) ∧ ∀ S, binop false .add (.lst zs) (.lst (ws.map fun w => M.int (val w))) S = .ok (.lst [.int d, .int h, .int m]) S := by
          rcases hd with ⟨h1, h2⟩ | ⟨h1, h2⟩
          · refine ⟨[.int 0], fun S => by rw [h1]; rfl, fun S => ?_⟩
            rw [b_lst, R.when_true (by simp [big, h1]), ← h2]; rfl
          · refine ⟨[], fun S => by rw [h1]; rfl, fun S => ?_⟩
            rw [b_lst, R.when_true (by simp [big, h1]), ← h2]; rfl
        have hlw := len_t w (by omega)
        have i0 : ∀ S, ixop (.lst [.int d, .int h, .int m]) (.int 0) S = .ok (.int d) S := fun _ => rfl
        have i1 : ∀ S, ixop (.lst [.int d, .int h, .int m]) (.int 1) S = .ok (.int h) S := fun _ => rfl
        have i2 : ∀ S, ixop (.lst [.int d, .int h, .int m]) (.int 2) S = .ok (.int m) S := fun _ => rfl
        simp only [d__law_due_time]
        rw [q_scons, wp_bind, q_set]
        simp only [q_bin, q_bi, q_cons, q_nil, q_lst, q_lc, q_Ival, q_var, varM_s, varM_0, R.bind_ok, hln, q_cint, List.length_cons, List.length_nil, Nat.reduceAdd, R.when_true (show (1 : Nat) ≤ big by decide), m1, b_sub, hmul, hsq, R.of_some, hi, hadd, wp_ok, nextM_nx, List.set_cons_succ, List.set_cons_zero]
        rw [q_scons, wp_bind, q_ifS]
        simp only [q_Tor, q_Tone, q_Tv, q_cmp, q_ix, q_bi, q_cons, q_nil, q_neg, negM_int, q_var, varM_s, varM_0, q_cint, R.bind_ok, i1, i2, c_gt, t_bl, R.of_some]
        by_cases c2 : h < 24
        · have c2' : ¬ (23 : Int) < h := by omega
          simp only [decide_eq_false c2', Bool.false_eq_true, if_false, hx, R.bind_ok, hlw, c_ne, t_bl, R.of_some]
          by_cases c1 : w.length = 2
          · have c1' : (!((w.length : Int) == 2)) = false := by rw [c1]; rfl
            simp only [c1', Bool.false_eq_true, if_false, R.bind_ok]
            by_cases c3 : m < 60
            · have c3' : ¬ (59 : Int) < m := by omega
              rw [ht.trans (show t3 d h m w = some (d * 1440 + h * 60 + m) from if_pos ⟨c1, c2, c3⟩)]
              simp only [decide_eq_false c3', Bool.false_eq_true, if_false, q_snil, wp_ok, nextM_nx]
              rw [q_scons, wp_bind, q_ret, q_tup]
              simp only [q_cons, q_nil, q_cstr, q_bin, q_ix, q_var, varM_s, varM_0, q_cint, R.bind_ok, i0, i1, i2, b_mul, b_add, R.when_true (show CMulOk d 1440 from cmul_r (by decide) (by decide)), R.when_true (show CMulOk h 60 from cmul_r (by decide) (by decide)), List.length_cons, List.length_nil, Nat.reduceAdd, R.when_true b2, wp_ok, nextM_ret, fin_ret]
              rfl
            · have c3' : (59 : Int) < m := by omega
              rw [ht.trans (show t3 d h m w = none from if_neg fun q => c3 q.2.2)]
              simp only [decide_eq_true c3', if_true]
              rw [q_scons, wp_bind, q_ret, q_tup]
              simp only [q_cons, q_nil, q_cstr, q_cint, R.bind_ok, List.length_cons, List.length_nil, Nat.reduceAdd, R.when_true b3, wp_ok, nextM_ret, fin_ret]
              rfl
          · have c1' : (!((w.length : Int) == 2)) = true := by
              have : ((w.length : Int) == 2) = false := beq_eq_false_iff_ne.mpr (by omega)
              rw [this]; rfl
            rw [ht.trans (show t3 d h m w = none from if_neg fun q => c1 q.1)]
            simp only [c1', if_true, R.bind_ok]
            rw [q_scons, wp_bind, q_ret, q_tup]
            simp only [q_cons, q_nil, q_cstr, q_cint, R.bind_ok, List.length_cons, List.length_nil, Nat.reduceAdd, R.when_true b3, wp_ok, nextM_ret, fin_ret]
            rfl
        · have c2' : (23 : Int) < h := by omega
          rw [ht.trans (show t3 d h m w = none from if_neg fun q => c2 q.2.1)]
          simp only [decide_eq_true c2', if_true, R.bind_ok]
          rw [q_scons, wp_bind, q_ret, q_tup]
          simp only [q_cons, q_nil, q_cstr, q_cint, R.bind_ok, List.length_cons, List.length_nil, Nat.reduceAdd, R.when_true b3, wp_ok, nextM_ret, fin_ret]
          rfl
      simp only [d__law_due_time] at main
      match ws, h23, hwl, hf', main with
      | [a, b], _, hwl, hf', main => exact main 0 (val a) (val b) b (.inl ⟨rfl, rfl⟩) (by have := hwl b (by simp); omega) rfl (if_pos ⟨hf' a (by simp), hf' b (by simp)⟩)
      | [a, b, c], _, hwl, hf', main => exact main (val a) (val b) (val c) c (.inr ⟨rfl, rfl⟩) (by have := hwl c (by simp); omega) rfl (if_pos ⟨hf' a (by simp), hf' b (by simp), hf' c (by simp)⟩)
      | [], h, _, _, _ => simp at h
      | [a], h, _, _, _ => simp at h
      | a :: b :: c :: d :: r, h, _, _, _ => simp at h
  · have h23' : ¬ ((ws.length : Int) = 2 ∨ (ws.length : Int) = 3) := by omega
    rw [timeW_none (.inl h23)]
    simp only [decide_eq_false h23', Bool.not_false, if_true, R.bind_ok]
    rw [q_scons, wp_bind, q_ret, q_tup]
    simp only [q_cons, q_nil, q_cstr, q_cint, R.bind_ok, List.length_cons, List.length_nil, Nat.reduceAdd, R.when_true b3, wp_ok, nextM_ret, fin_ret]
    rfl
theorem pl_due (w : String) (o : Option Int) : M.plain (dueM w o) = true := by cases o <;> rfl
theorem fz_plain {m : M} (h : M.plain m = true) (S : Store) : freeze S m = some m := by
  cases m with
  | ref n => simp [M.plain] at h
  | _ => simp [freeze, h]
theorem due_time_call (k : Nat) (l : List Nat) (hl : l.length ≤ 900) (S : Store) : callM (evalFn Φ (k + 2)) true "_law_due_time" [tM l] S = .ok (dueM "time" (timeV l)) S := by
  obtain ⟨r, S', e, rfl⟩ := (due_time_ok k l hl).ex
  exact pcall (by simp [M.plain.go]) e (pl_due _ _)
theorem told_time_call (k : Nat) (l : List Nat) (hl : l.length ≤ 900) (S : Store) : callM (evalFn Φ (k + 2)) true "told_time" [tM l] S = .ok (optM (timeV l)) S :=
  pcall (by simp [M.plain.go]) (told_time_eq k l hl) (by cases timeV l <;> rfl)
end K03

namespace K03
open PySem PySem.Spec L2 Mi Pg
/-! ### lengths -/
def lenW : List (List Nat) → Option Int
  | [a] => if fig 9 a = true then some (val a) else none
  | [a, b] => if fig 9 a = true then (if b = [] then some (val a * 60) else if b.length = 2 ∧ fig 9 b = true ∧ val b < 60 then some (val a * 60 + val b) else none) else none
  | _ => none
def lenV (l : List Nat) : Option Int := lenW (cutW 104 l)
theorem spl_ne (c : Nat) : ∀ (l acc : List Nat), TL.spl [c] 0 acc l ≠ []
  | [], acc => by rw [TL.spl_nil]; simp
  | d :: l, acc => by
    rw [spl_cons]
    split
    · simp
    · exact spl_ne c l _
theorem aitch : Str.ofString "h" = sx [104] := by decide +kernel
theorem zero_s : Str.ofString "0" = sx [48] := by decide +kernel
theorem int_t {n : Nat} {w : List Nat} (h : fig n w = true) (hn : n ≤ 640) (S : Store) : biop .int [tM w] S = .ok (.int (val w)) S := by
  obtain ⟨e1, e2⟩ := fig_int h hn
  show biop .int [M.str (sx w)] S = _
  simp only [biop, R.when_true e2, e1, R.of_some]
theorem eq_empty (b : List Nat) (S : Store) : cmpop .eq (tM b) (.str (Str.ofString "")) S = .ok (.bl (decide (b = []))) S := by
  show R.ok (M.bl (decide (sx b = Str.ofString ""))) S = _
  rw [empty_sx]
  congr 2
  rw [decide_eq_decide]
  exact ⟨fun h => sx_inj h, fun h => by rw [h]⟩
theorem ne_empty (b : List Nat) (S : Store) : cmpop .ne (tM b) (.str (Str.ofString "")) S = .ok (.bl (!decide (b = []))) S := by
  show R.ok (M.bl (!decide (sx b = Str.ofString ""))) S = _
  rw [empty_sx]
  congr 3
  rw [decide_eq_decide]
  exact ⟨fun h => sx_inj h, fun h => by rw [h]⟩
set_option maxHeartbeats 0 in
theorem told_len_eq (k : Nat) (l : List Nat) (hl : l.length ≤ 900) : evalFn Φ (k + 2) "told_length" [tM l] [] = .ok (optM (lenV l)) [] := by
  have hΦ : Φ "told_length" = some d_told_length := by rfl
  rw [evalFn]
  simp only [hΦ]
  have hwl := cut_len 104 l
  have hne : cutW 104 l ≠ [] := spl_ne 104 l []
  have hsp := fun S => split_ok 104 (by decide) "h" aitch l hl S
  have hst : strOf (tM l) = some (sx l) := rfl
  unfold lenV
  generalize cutW 104 l = ws at hwl hne hsp
  match ws, hwl, hne, hsp with
  | [], _, hne, _ => exact absurd rfl hne
  | [a], hwl, _, hsp =>
    have la : a.length ≤ 1000 := by have := hwl a (by simp); omega
    have fa := figs_call k a la
    have i0 : ∀ S, ixop (.lst [tM a]) (.int 0) S = .ok (tM a) S := fun _ => rfl
    simp only [lenW]
    cases hf : fig 9 a with
    | false =>
      rw [hf] at fa
      simp [d_told_length, hst, hsp, bi_lenl, c_gt, t_bl, i0, fa, R.when, optM]
    | true =>
      rw [hf] at fa
      simp [d_told_length, hst, hsp, bi_lenl, c_gt, c_eq, t_bl, i0, fa, R.when, int_t hf, optM]
  | [a, b], hwl, _, hsp =>
    have la : a.length ≤ 1000 := by have := hwl a (by simp); omega
    have lb : b.length ≤ 1000 := by have := hwl b (by simp); omega
    have fa := figs_call k a la
    have fb := figs_call k b lb
    have i0 : ∀ S, ixop (.lst [tM a, tM b]) (.int 0) S = .ok (tM a) S := fun _ => rfl
    have i1 : ∀ S, ixop (.lst [tM a, tM b]) (.int 1) S = .ok (tM b) S := fun _ => rfl
    simp only [lenW]
    cases hf : fig 9 a with
    | false =>
      rw [hf] at fa
      simp [d_told_length, hst, hsp, bi_lenl, c_gt, t_bl, i0, fa, R.when, optM]
    | true =>
      rw [hf] at fa
      have bm : ∀ (i : Int) S, binop true .mul (.int i) (.int 60) S = .ok (.int (i * 60)) S := fun i S => by rw [b_mul, R.when_true (cmul_r (by decide) (by decide))]
      have bm' : ∀ (i : Int) S, binop false .mul (.int i) (.int 60) S = .ok (.int (i * 60)) S := fun i S => by rw [b_mul, R.when_true (cmul_r (by decide) (by decide))]
      by_cases hb : b = []
      · subst hb
        simp [d_told_length, hst, hsp, bi_lenl, c_gt, c_eq, t_bl, i0, i1, fa, R.when, int_t hf, eq_empty, bm, optM]
      · rw [if_pos rfl, if_neg hb]
        by_cases h2 : b.length = 2
        · have h2' : (!((b.length : Int) == 2)) = false := by rw [h2]; rfl
          cases hfb : fig 9 b with
          | false =>
            rw [hfb] at fb
            rw [if_neg (by simp)]
            simp [d_told_length, hst, hsp, bi_lenl, c_gt, c_eq, c_ne, t_bl, i0, i1, fa, R.when, eq_empty, hb, len_t b lb, h2, fb, optM]
          | true =>
            rw [hfb] at fb
            by_cases h6 : val b < 60
            · have h6' : ¬ (60 : Int) ≤ val b := by omega
              rw [if_pos ⟨h2, rfl, h6⟩]
              simp [d_told_length, hst, hsp, bi_lenl, c_gt, c_eq, c_ne, c_ge, t_bl, i0, i1, fa, R.when, eq_empty, hb, len_t b lb, h2, fb, int_t hf, int_t hfb, h6', bm', b_add, optM]
            · have h6' : (60 : Int) ≤ val b := by omega
              rw [if_neg fun q => h6 q.2.2]
              simp [d_told_length, hst, hsp, bi_lenl, c_gt, c_eq, c_ne, c_ge, t_bl, i0, i1, fa, R.when, eq_empty, hb, len_t b lb, h2, fb, int_t hf, int_t hfb, h6', optM]
        · have h2' : ((b.length : Int) == 2) = false := beq_eq_false_iff_ne.mpr (by omega)
          rw [if_neg fun q => h2 q.1]
          simp [d_told_length, hst, hsp, bi_lenl, c_gt, c_eq, c_ne, t_bl, i0, i1, fa, R.when, eq_empty, hb, len_t b lb, h2', optM]
  | a :: b :: c :: r, hwl, _, hsp =>
    have h3 : (2 : Int) < (((a :: b :: c :: r).map tM).length : Int) := by simp; omega
    simp only [lenW]
    have hc : ∀ S : Store, biop .len [.lst (List.map tM (a :: b :: c :: r))] S = .ok (.int ((List.map tM (a :: b :: c :: r)).length : Int)) S := fun S => rfl
    generalize List.map tM (a :: b :: c :: r) = L at hsp h3 hc
    simp [d_told_length, hst, hsp, hc, c_gt, h3, t_bl, optM]
theorem told_len_call (k : Nat) (l : List Nat) (hl : l.length ≤ 900) (S : Store) : callM (evalFn Φ (k + 2)) true "told_length" [tM l] S = .ok (optM (lenV l)) S :=
  pcall (by simp [M.plain.go]) (told_len_eq k l hl) (by cases lenV l <;> rfl)
/-! ### read or refused -/
def badL (w : String) : Ex := ⟨"BadLine", [("line", .int 1), ("word", .str (Str.ofString w))]⟩
def resL (w : String) (o : Option Int) (S : Store) : R M := match o with
  | some v => .ok (.int v) S
  | none => .exc (badL w) S
theorem read_time_call (k : Nat) (l : List Nat) (hl : l.length ≤ 900) (S : Store) : callM (evalFn Φ (k + 3)) true "read_time" [tM l] S = resL "time" (timeV l) S := by
  have e := told_time_call k l hl
  have hΦ : Φ "read_time" = some d_read_time := by rfl
  have hd : derefs S [tM l] = some [tM l] := de_plains S _ (by simp [M.plain.go])
  have main : evalFn Φ (k + 3) "read_time" [tM l] [] = resL "time" (timeV l) [] := by
    rw [evalFn]
    simp only [hΦ]
    cases h : timeV l with
    | none => rw [h] at e; simp [d_read_time, e, optM, cmpop, Mi.isNon, t_bl, resL, badL, R.when]
    | some v => rw [h] at e; simp [d_read_time, e, optM, cmpop, Mi.isNon, t_bl, resL, R.when]
  cases h : timeV l with
  | none => rw [h] at main; exact pure_exc hd main rfl
  | some v => rw [h] at main; exact pure_call hd main rfl
theorem read_len_call (k : Nat) (l : List Nat) (hl : l.length ≤ 900) (S : Store) : callM (evalFn Φ (k + 3)) true "read_length" [tM l] S = resL "length" (lenV l) S := by
  have e := told_len_call k l hl
  have hΦ : Φ "read_length" = some d_read_length := by rfl
  have hd : derefs S [tM l] = some [tM l] := de_plains S _ (by simp [M.plain.go])
  have main : evalFn Φ (k + 3) "read_length" [tM l] [] = resL "length" (lenV l) [] := by
    rw [evalFn]
    simp only [hΦ]
    cases h : lenV l with
    | none => rw [h] at e; simp [d_read_length, e, optM, cmpop, Mi.isNon, t_bl, resL, badL, R.when]
    | some v => rw [h] at e; simp [d_read_length, e, optM, cmpop, Mi.isNon, t_bl, resL, R.when]
  cases h : lenV l with
  | none => rw [h] at main; exact pure_exc hd main rfl
  | some v => rw [h] at main; exact pure_call hd main rfl
theorem way_t (S : Store) : cmpop .eq (.str (Str.ofString "time")) (.str (Str.ofString "time")) S = .ok (.bl true) S := congrArg (fun b => R.ok (M.bl b) S) (decide_eq_true rfl)
theorem way_l (S : Store) : cmpop .eq (.str (Str.ofString "length")) (.str (Str.ofString "time")) S = .ok (.bl false) S := congrArg (fun b => R.ok (M.bl b) S) (show decide (Str.ofString "length" = Str.ofString "time") = false by decide)
theorem heard_time (k : Nat) (l : List Nat) (hl : l.length ≤ 900) (S : Store) : callM (evalFn Φ (k + 4)) true "_law_heard" [.str (Str.ofString "time"), tM l] S = .ok (dueM "time" (timeV l)) S := by
  have e := read_time_call k l hl
  have hΦ : Φ "_law_heard" = some d__law_heard := by rfl
  refine pcall (S' := []) (by simp [M.plain.go, M.plain]) ?_ (pl_due _ _)
  rw [evalFn]
  simp only [hΦ]
  have hx : "BadLine" ∈ xnames := by decide
  cases h : timeV l with
  | some v => rw [h] at e; simp [d__law_heard, e, way_t, t_bl, resL, R.when, big, dueM, toldM]
  | none => rw [h] at e; simp [d__law_heard, e, way_t, t_bl, resL, R.when, hx, List.lookup, handle, Cz.ev, xsub, Sr.ev, Sas.ev, Sa.ev, Kon.m, badL, dueM, lineM]
theorem heard_len (k : Nat) (l : List Nat) (hl : l.length ≤ 900) (S : Store) : callM (evalFn Φ (k + 4)) true "_law_heard" [.str (Str.ofString "length"), tM l] S = .ok (dueM "length" (lenV l)) S := by
  have e := read_len_call k l hl
  have hΦ : Φ "_law_heard" = some d__law_heard := by rfl
  refine pcall (S' := []) (by simp [M.plain.go, M.plain]) ?_ (pl_due _ _)
  rw [evalFn]
  simp only [hΦ]
  have hx : "BadLine" ∈ xnames := by decide
  cases h : lenV l with
  | some v => rw [h] at e; simp [d__law_heard, e, way_l, t_bl, resL, R.when, big, dueM, toldM]
  | none => rw [h] at e; simp [d__law_heard, e, way_l, t_bl, resL, R.when, hx, List.lookup, handle, Cz.ev, xsub, Sr.ev, Sas.ev, Sa.ev, Kon.m, badL, dueM, lineM]
end K03

namespace K03
open PySem PySem.Spec L2 Mi Pg
theorem fig_mono {m n : Nat} {l : List Nat} (h : l.length ≤ m) (h' : l.length ≤ n) : fig m l = fig n l := by
  unfold fig
  rw [show decide (0 < l.length ∧ l.length ≤ m) = decide (0 < l.length ∧ l.length ≤ n) from decide_eq_decide.mpr ⟨fun q => ⟨q.1, h'⟩, fun q => ⟨q.1, h⟩⟩]
theorem val_zero (b : List Nat) : val (48 :: b) = val b := by
  unfold val NumText.digitsVal
  rfl
theorem fig_zero {b : List Nat} (h : b = [] ∨ fig 9 b = true) : fig 10 (48 :: b) = true := by
  unfold fig at h ⊢
  simp only [List.all_cons, List.length_cons]
  rcases h with rfl | h
  · rfl
  · simp only [Bool.and_eq_true, decide_eq_true_eq] at h ⊢
    exact ⟨by omega, rfl, h.2⟩
set_option maxHeartbeats 0 in
theorem due_len_ok (k : Nat) (l : List Nat) (hl : l.length ≤ 900) : Wp (evalFn Φ (k + 2) "_law_due_length" [tM l] []) fun r _ => r = dueM "length" (lenV l) := by
  have hΦ : Φ "_law_due_length" = some d__law_due_length := by rfl
  refine wp_fn hΦ rfl ?_
  have hwl := cut_len 104 l
  have hne : cutW 104 l ≠ [] := spl_ne 104 l []
  have hwo := fun {P : F → Store → Prop} hP => words_ok (k + 1) "h" 104 aitch l hl [] (P := P) hP
  simp only [wB] at hwo
  unfold lenV
  obtain ⟨ws, hws⟩ : ∃ ws, cutW 104 l = ws := ⟨_, rfl⟩
  rw [hws] at hwl hwo hne ⊢
  simp only [d__law_due_length, List.map_cons, List.map_nil, List.cons_append, List.nil_append, List.length_cons, List.length_nil, List.replicate, Nat.reduceAdd, Nat.reduceSub]
  rw [q_scons, wp_bind, q_set, q_lst]
  simp only [q_cons, q_nil, q_cstr, R.bind_ok, List.length_cons, List.length_nil, Nat.reduceAdd, R.when_true (show (1 : Nat) ≤ big by decide), one_sx, List.nil_append, wp_ok, nextM_nx, List.set_cons_succ, List.set_cons_zero]
  rw [q_scons, wp_bind, q_for, q_Isgn]
  simp only [q_var, varM_s, varM_0, R.bind_ok, sgnM_t l (by omega)]
  refine hwo fun c2 => ?_
  rw [nextM_nx]
  have hln : biop .len [.ref 0] [O.lst (ws.map tM)] = .ok (.int ws.length) [O.lst (ws.map tM)] := by
    have hsq : seqOf [O.lst (ws.map tM)] (.ref 0) = some (ws.map tM) := rfl
    simp only [biop, hsq, R.of_some, List.length_map]
  match ws, hwl, hne, hln with
  | [], _, hne, _ => exact absurd rfl hne
  | [a], hwl, _, hln =>
    have la : a.length ≤ 1000 := by have := hwl a (by simp); omega
    have fa : ∀ S, callM (evalFn Φ (k + 1)) true "_law_figures" [tM a, .int 9] S = .ok (.bl (fig 9 a)) S := fun S => lfig_call k a 9 la S
    have i0 : ixop (.ref 0) (.int 0) [O.lst ([a].map tM)] = .ok (tM a) [O.lst ([a].map tM)] := rfl
    simp only [lenW]
    generalize hL : [O.lst ([a].map tM)] = SS at hln i0 ⊢
    cases hf : fig 9 a with
    | false =>
      rw [hf] at fa
      simp [hln, c_gt, t_bl, i0, fa, wp_when, big, dueM, lineM]
    | true =>
      rw [hf] at fa
      simp [hln, c_gt, c_eq, t_bl, i0, fa, wp_when, big, int_t hf, dueM, toldM]
  | [a, b], hwl, _, hln =>
    have la : a.length ≤ 1000 := by have := hwl a (by simp); omega
    have lb : b.length ≤ 1000 := by have := hwl b (by simp); omega
    have fa : ∀ S, callM (evalFn Φ (k + 1)) true "_law_figures" [tM a, .int 9] S = .ok (.bl (fig 9 a)) S := fun S => lfig_call k a 9 la S
    have fb : ∀ S, callM (evalFn Φ (k + 1)) true "_law_figures" [tM b, .int 2] S = .ok (.bl (fig 2 b)) S := fun S => lfig_call k b 2 lb S
    have i0 : ixop (.ref 0) (.int 0) [O.lst ([a, b].map tM)] = .ok (tM a) [O.lst ([a, b].map tM)] := rfl
    have i1 : ixop (.ref 0) (.int 1) [O.lst ([a, b].map tM)] = .ok (tM b) [O.lst ([a, b].map tM)] := rfl
    have bm' : ∀ (i : Int) S, binop false .mul (.int i) (.int 60) S = .ok (.int (i * 60)) S := fun i S => by rw [b_mul, R.when_true (cmul_r (by decide) (by decide))]
    have had : ∀ S, binop false .add (.str (Str.ofString "0")) (tM b) S = .ok (tM (48 :: b)) S := fun S => by
      rw [zero_s]
      show R.when ((sx [48]).length + (sx b).length ≤ big) (R.ok (M.str (sx [48] ++ sx b)) _) = _
      rw [R.when_true (by rw [sx_len, sx_len]; unfold big; simp; omega), sx_app]
      rfl
    simp only [lenW]
    generalize hL : [O.lst ([a, b].map tM)] = SS at hln i0 i1 ⊢
    have e0 : ∀ S, cmpop .ne (tM b) (.str (Str.ofString "")) S = .ok (.bl (!decide (b = []))) S := ne_empty b
    cases hf : fig 9 a with
    | false =>
      rw [hf] at fa
      simp [hln, c_gt, t_bl, i0, fa, wp_when, big, dueM, lineM]
    | true =>
      rw [hf] at fa
      by_cases hb : b = []
      · subst hb
        have hz := fun S => int_t (fig_zero (b := []) (.inl rfl)) (by decide) S
        rw [if_pos rfl, if_pos rfl]
        have hv : val [48] = 0 := rfl
        rw [hv] at hz
        have e0' : ∀ S, cmpop .ne (tM []) (.str (Str.ofString "")) S = .ok (.bl false) S := e0
        simp [hln, c_gt, c_eq, t_bl, i0, i1, fa, wp_when, big, int_t hf, e0', bm', b_add, had, hz, dueM, toldM]
      · rw [if_pos rfl, if_neg hb]
        by_cases h2 : b.length = 2
        · have e2 : fig 2 b = fig 9 b := fig_mono (by omega) (by omega)
          rw [e2] at fb
          cases hfb : fig 9 b with
          | false =>
            rw [hfb] at fb
            rw [if_neg (by simp)]
            simp [hln, c_gt, c_eq, c_ne, t_bl, i0, i1, fa, wp_when, big, e0, hb, fb, dueM, lineM]
          | true =>
            rw [hfb] at fb
            have hz := fun S => int_t (fig_zero (b := b) (.inr hfb)) (by decide) S
            rw [val_zero] at hz
            by_cases h6 : val b < 60
            · have h6' : ¬ (59 : Int) < val b := by omega
              rw [if_pos ⟨h2, rfl, h6⟩]
              simp [hln, c_gt, c_eq, c_ne, t_bl, i0, i1, fa, wp_when, big, e0, hb, fb, len_t b lb, h2, int_t hf, int_t hfb, h6', bm', b_add, had, hz, dueM, toldM]
            · have h6' : (59 : Int) < val b := by omega
              rw [if_neg fun q => h6 q.2.2]
              simp [hln, c_gt, c_eq, c_ne, t_bl, i0, i1, fa, wp_when, big, e0, hb, fb, len_t b lb, h2, int_t hf, int_t hfb, h6', dueM, lineM]
        · have h2' : ((b.length : Int) == 2) = false := beq_eq_false_iff_ne.mpr (by omega)
          rw [if_neg fun q => h2 q.1]
          cases hfb : fig 2 b with
          | false =>
            rw [hfb] at fb
            simp [hln, c_gt, c_eq, c_ne, t_bl, i0, i1, fa, wp_when, big, e0, hb, fb, dueM, lineM]
          | true =>
            rw [hfb] at fb
            simp [hln, c_gt, c_eq, c_ne, t_bl, i0, i1, fa, wp_when, big, e0, hb, fb, len_t b lb, h2', dueM, lineM]
  | a :: b :: c :: r, hwl, _, hln =>
    have h3 : (2 : Int) < ((a :: b :: c :: r).length : Int) := by simp; omega
    simp only [lenW]
    generalize hL : [O.lst (List.map tM (a :: b :: c :: r))] = SS at hln ⊢
    generalize ((a :: b :: c :: r).length : Int) = N at hln h3
    simp [hln, c_gt, h3, t_bl, wp_when, big, dueM, lineM]
theorem due_len_call (k : Nat) (l : List Nat) (hl : l.length ≤ 900) (S : Store) : callM (evalFn Φ (k + 2)) true "_law_due_length" [tM l] S = .ok (dueM "length" (lenV l)) S := by
  obtain ⟨r, S', e, rfl⟩ := (due_len_ok k l hl).ex
  exact pcall (by simp [M.plain.go]) e (pl_due _ _)
end K03

namespace K03
open PySem PySem.Spec L2 Mi Pg
/-! ### times and lengths written -/
def two (n : Nat) : List Nat := [48 + n / 10, 48 + n % 10]
def timeS (m : Nat) : List Nat := if m / 60 < 24 then TL.numL (m / 60) ++ 58 :: two (m % 60) else TL.numL (m / 60 / 24) ++ 58 :: (two (m / 60 % 24) ++ 58 :: two (m % 60))
def lenS (m : Nat) : List Nat := if m < 60 then TL.numL m else TL.numL (m / 60) ++ 104 :: (if m % 60 = 0 then [] else two (m % 60))
theorem six_dig (i : Nat) (h : i < 10) (S : Store) : sixop (.str (Str.ofString "0123456789")) (.int (i : Int)) S = .ok (tM [48 + i]) S := by
  have hl : (Str.ofString "0123456789").length ≤ big := by decide +kernel
  have hat : atI (Str.ofString "0123456789").cps.toList (i : Int) = some (48 + i) := by
    rw [digits_tl]
    unfold atI ixN
    rw [if_pos (by omega), if_pos (by simp; omega)]
    have : i = 0 ∨ i = 1 ∨ i = 2 ∨ i = 3 ∨ i = 4 ∨ i = 5 ∨ i = 6 ∨ i = 7 ∨ i = 8 ∨ i = 9 := by omega
    rcases this with rfl | rfl | rfl | rfl | rfl | rfl | rfl | rfl | rfl | rfl <;> rfl
  simp only [sixop, R.when_true hl, hat, R.of_some]
  rfl
theorem add_t (al : Bool) (a b : List Nat) (ha : a.length + b.length ≤ 2000) (S : Store) : binop al .add (tM a) (tM b) S = .ok (tM (a ++ b)) S := by
  show R.when ((sx a).length + (sx b).length ≤ big) (R.ok (M.str (sx a ++ sx b)) _) = _
  rw [R.when_true (by rw [sx_len, sx_len]; unfold big; omega), sx_app]
  rfl
theorem num_t (n : Nat) (h : n < 2 ^ 64) (S : Store) : biop .str [.int (n : Int)] S = .ok (tM (TL.numL n)) S := by
  have hl : ((n : Int)).natAbs.log2 < 1900 := by
    have : n.log2 < 64 := PySem.Flt.log2_lt_of (by decide) h
    show n.log2 < 1900
    omega
  show R.when (((n : Int)).natAbs.log2 < 1900) (R.ok (M.str (Str.ofString (toString (n : Int)))) S) = _
  rw [R.when_true hl, SX.num_S]
  rfl
theorem numL20 {n : Nat} (h : n < 10 ^ 19) : (TL.numL n).length ≤ 19 := TL.numL_len (by decide) h
theorem ltwo_call (k : Nat) (n : Nat) (h : n < 100) (S : Store) : callM (evalFn Φ (k + 1)) true "_law_two" [.int (n : Int)] S = .ok (tM (two n)) S := by
  have hΦ : Φ "_law_two" = some d__law_two := by rfl
  refine pcall (S' := []) (by simp [M.plain.go, M.plain]) ?_ rfl
  rw [evalFn]
  simp only [hΦ]
  have e1 : ∀ S, sixop (.str (Str.ofString "0123456789")) (.int ((n : Int) / 10)) S = .ok (tM [48 + n / 10]) S := fun S => six_dig (n / 10) (by omega) S
  have e2 : ∀ S, sixop (.str (Str.ofString "0123456789")) (.int ((n : Int) % 10)) S = .ok (tM [48 + n % 10]) S := fun S => six_dig (n % 10) (by omega) S
  have e3 : ∀ S, binop true .add (tM [48 + n / 10]) (tM [48 + n % 10]) S = .ok (tM (two n)) S := fun S => add_t true _ _ (by simp) S
  have hd : CDivOk (n : Int) 10 := cdiv_s (by decide) (by decide)
  simp [d__law_two, b_div, b_mod, bi_int, R.when, hd, e1, e2, e3]
theorem num_small {n : Nat} (h : n < 100) : (if n < 10 then [48] else []) ++ TL.numL n = two n := by
  unfold two
  by_cases h1 : n < 10
  · rw [if_pos h1, TL.numL_lt h1]
    have e1 : n / 10 = 0 := by omega
    have e2 : n % 10 = n := by omega
    rw [e1, e2]; rfl
  · rw [if_neg h1, TL.numL_step (by omega), TL.numL_lt (by omega)]
    rfl
theorem two_call (k : Nat) (n : Nat) (h : n < 100) (S : Store) : callM (evalFn Φ (k + 1)) true "two_figures" [.int (n : Int)] S = .ok (tM (two n)) S := by
  have hΦ : Φ "two_figures" = some d_two_figures := by rfl
  refine pcall (S' := []) (by simp [M.plain.go, M.plain]) ?_ rfl
  rw [evalFn]
  simp only [hΦ]
  have e1 := num_t n (by omega)
  have hn : (TL.numL n).length ≤ 19 := numL20 (by omega)
  rw [← num_small h]
  by_cases h1 : n < 10
  · have h1' : (n : Int) < 10 := by omega
    have e3 : ∀ S, binop true .add (.str (Str.ofString "0")) (tM (TL.numL n)) S = .ok (tM ([48] ++ TL.numL n)) S := fun S => by rw [zero_s]; exact add_t true [48] _ (by simp; omega) S
    rw [if_pos h1]
    simp only [d_two_figures]
    simp [c_lt, h1', t_bl, e1, e3, R.when]
  · have h1' : ¬ (n : Int) < 10 := by omega
    have e3 : ∀ S, binop true .add (.str (Str.ofString "")) (tM (TL.numL n)) S = .ok (tM ([] ++ TL.numL n)) S := fun S => by rw [empty_sx]; exact add_t true [] _ (by simp; omega) S
    rw [if_neg h1]
    simp only [d_two_figures]
    simp [c_lt, h1', t_bl, e1, R.when]
    rw [e3]
    rfl
theorem col_t (al : Bool) (a : List Nat) (ha : a.length ≤ 1000) (S : Store) : binop al .add (tM a) (.str (Str.ofString ":")) S = .ok (tM (a ++ [58])) S := by rw [colon]; exact add_t al a [58] (by simp; omega) S
theorem lcol_t (al : Bool) (a : List Nat) (ha : a.length ≤ 1000) (S : Store) : binop al .add (.str (Str.ofString ":")) (tM a) S = .ok (tM (58 :: a)) S := by rw [colon]; exact add_t al [58] a (by simp; omega) S
theorem h_t (al : Bool) (a : List Nat) (ha : a.length ≤ 1000) (S : Store) : binop al .add (tM a) (.str (Str.ofString "h")) S = .ok (tM (a ++ [104])) S := by rw [aitch]; exact add_t al a [104] (by simp; omega) S
theorem b_div_n (al : Bool) (m d : Nat) (h : 0 < d ∧ d < 2 ^ 60) (S : Store) : binop al .fdiv (.int (m : Int)) (.int (d : Int)) S = .ok (.int ((m / d : Nat) : Int)) S := by
  rw [b_div, R.when_true (cdiv_s (by omega) (by omega))]
  rfl
theorem b_mod_n (al : Bool) (m d : Nat) (h : 0 < d) (S : Store) : binop al .mod (.int (m : Int)) (.int (d : Int)) S = .ok (.int ((m % d : Nat) : Int)) S := by
  rw [b_mod, R.when_true (by omega)]
  rfl
theorem two_len (n : Nat) : (two n).length = 2 := rfl
set_option maxHeartbeats 0 in
theorem ltime_call (k : Nat) (m : Nat) (h : m < 1440 * 10 ^ 9) (S : Store) : callM (evalFn Φ (k + 2)) true "_law_time" [.int (m : Int)] S = .ok (tM (timeS m)) S := by
  have hΦ : Φ "_law_time" = some d__law_time := by rfl
  refine pcall (S' := []) (by simp [M.plain.go, M.plain]) ?_ rfl
  rw [evalFn]
  simp only [hΦ]
  have d1 : ∀ S, binop false .fdiv (.int (m : Int)) (.int 60) S = .ok (.int ((m / 60 : Nat) : Int)) S := b_div_n false m 60 (by decide)
  have d2 : ∀ S, binop false .mod (.int (m : Int)) (.int 60) S = .ok (.int ((m % 60 : Nat) : Int)) S := b_mod_n false m 60 (by decide)
  have d3 : ∀ S, binop false .fdiv (.int ((m / 60 : Nat) : Int)) (.int 24) S = .ok (.int ((m / 60 / 24 : Nat) : Int)) S := b_div_n false (m / 60) 24 (by decide)
  have d4 : ∀ S, binop false .mod (.int ((m / 60 : Nat) : Int)) (.int 24) S = .ok (.int ((m / 60 % 24 : Nat) : Int)) S := b_mod_n false (m / 60) 24 (by decide)
  have t1 := ltwo_call k (m % 60) (by omega)
  have t2 := ltwo_call k (m / 60 % 24) (by omega)
  have n1 := num_t (m / 60) (by omega)
  have n2 := num_t (m / 60 / 24) (by omega)
  have l1 : (TL.numL (m / 60)).length ≤ 19 := numL20 (by omega)
  have l2 : (TL.numL (m / 60 / 24)).length ≤ 19 := numL20 (by omega)
  have a1 : ∀ S, binop false .add (.str (Str.ofString ":")) (tM (two (m % 60))) S = .ok (tM (58 :: two (m % 60))) S := lcol_t false _ (by rw [two_len]; omega)
  unfold timeS
  generalize m % 60 = mm at d2 t1 a1 ⊢
  generalize hH : m / 60 = H at d1 d3 d4 t2 n1 n2 l1 l2 ⊢
  by_cases hh : H < 24
  · have hh' : (H : Int) < 24 := by omega
    rw [if_pos hh]
    have a2 : ∀ S, binop true .add (tM (TL.numL H)) (tM (58 :: two mm)) S = .ok (tM (TL.numL H ++ 58 :: two mm)) S := add_t true _ _ (by simp [two_len]; omega)
    simp only [d__law_time]
    simp [d1, d2, t1, a1, bi_int, c_lt, hh', t_bl, n1, a2, R.when]
  · have hh' : ¬ (H : Int) < 24 := by omega
    rw [if_neg hh]
    have a2 : ∀ S, binop false .add (tM (TL.numL (H / 24))) (.str (Str.ofString ":")) S = .ok (tM (TL.numL (H / 24) ++ [58])) S := col_t false _ (by omega)
    have a3 : ∀ S, binop false .add (tM (TL.numL (H / 24) ++ [58])) (tM (two (H % 24))) S = .ok (tM (TL.numL (H / 24) ++ [58] ++ two (H % 24))) S := add_t false _ _ (by simp [two_len]; omega)
    have a4 : ∀ S, binop true .add (tM (TL.numL (H / 24) ++ [58] ++ two (H % 24))) (tM (58 :: two mm)) S = .ok (tM (TL.numL (H / 24) ++ [58] ++ two (H % 24) ++ 58 :: two mm)) S := add_t true _ _ (by simp [two_len]; omega)
    have e : TL.numL (H / 24) ++ 58 :: (two (H % 24) ++ 58 :: two mm) = TL.numL (H / 24) ++ [58] ++ two (H % 24) ++ 58 :: two mm := by simp
    rw [e]
    generalize H / 24 = D at d3 n2 a2 a3 a4 ⊢
    generalize H % 24 = hd at d4 t2 a3 a4 ⊢
    generalize TL.numL D ++ [58] = X1 at a2 a3 a4 ⊢
    generalize X1 ++ two hd = X2 at a3 a4 ⊢
    generalize X2 ++ 58 :: two mm = X3 at a4 ⊢
    simp only [d__law_time]
    simp [d1, d2, d3, d4, t1, t2, a1, bi_int, c_lt, hh', t_bl, n2, a2, a3, a4, R.when]
set_option maxHeartbeats 0 in
theorem ptime_call (k : Nat) (m : Nat) (h : m < 1440 * 10 ^ 9) (S : Store) : callM (evalFn Φ (k + 2)) true "time_text" [.int (m : Int)] S = .ok (tM (timeS m)) S := by
  have hΦ : Φ "time_text" = some d_time_text := by rfl
  refine pcall (S' := []) (by simp [M.plain.go, M.plain]) ?_ rfl
  rw [evalFn]
  simp only [hΦ]
  have d1 : ∀ S, binop false .fdiv (.int (m : Int)) (.int 1440) S = .ok (.int ((m / 60 / 24 : Nat) : Int)) S := fun S => by
    have := b_div_n false m 1440 (by decide) S
    rw [show m / 1440 = m / 60 / 24 by omega] at this
    exact this
  have d2 : ∀ S, binop false .mod (.int (m : Int)) (.int 1440) S = .ok (.int ((m % 1440 : Nat) : Int)) S := b_mod_n false m 1440 (by decide)
  have d3 : ∀ S, binop false .fdiv (.int ((m % 1440 : Nat) : Int)) (.int 60) S = .ok (.int ((m / 60 % 24 : Nat) : Int)) S := fun S => by
    have := b_div_n false (m % 1440) 60 (by decide) S
    rw [show m % 1440 / 60 = m / 60 % 24 by omega] at this
    exact this
  have d4 : ∀ S, binop false .mod (.int ((m % 1440 : Nat) : Int)) (.int 60) S = .ok (.int ((m % 60 : Nat) : Int)) S := fun S => by
    have := b_mod_n false (m % 1440) 60 (by decide) S
    rw [show m % 1440 % 60 = m % 60 by omega] at this
    exact this
  have t1 := two_call k (m % 60) (by omega)
  have t2 := two_call k (m / 60 % 24) (by omega)
  have n1 := num_t (m / 60 % 24) (by omega)
  have n2 := num_t (m / 60 / 24) (by omega)
  have l2 : (TL.numL (m / 60 / 24)).length ≤ 19 := numL20 (by omega)
  have l1 : (TL.numL (m / 60 % 24)).length ≤ 19 := numL20 (by omega)
  unfold timeS
  generalize m % 1440 = r at d2 d3 d4
  generalize m % 60 = mm at d4 t1 ⊢
  generalize hH : m / 60 = H at d1 d3 t2 n1 n2 l1 l2 ⊢
  by_cases hh : H < 24
  · have h0 : H / 24 = 0 := by omega
    have hm : H % 24 = H := by omega
    rw [if_pos hh]
    rw [h0] at d1
    rw [hm] at d3 n1 l1
    have a2 : ∀ S, binop false .add (tM (TL.numL H)) (.str (Str.ofString ":")) S = .ok (tM (TL.numL H ++ [58])) S := col_t false _ (by omega)
    have a3 : ∀ S, binop true .add (tM (TL.numL H ++ [58])) (tM (two mm)) S = .ok (tM (TL.numL H ++ [58] ++ two mm)) S := add_t true _ _ (by simp [two_len]; omega)
    rw [show TL.numL H ++ 58 :: two mm = TL.numL H ++ [58] ++ two mm by simp]
    generalize TL.numL H ++ [58] = X1 at a2 a3 ⊢
    generalize X1 ++ two mm = X2 at a3 ⊢
    simp only [d_time_text]
    simp [d1, d2, d3, d4, t1, bindT.go, c_eq, t_bl, n1, a2, a3, R.when]
  · have h0 : (((H / 24 : Nat) : Int) == 0) = false := beq_eq_false_iff_ne.mpr (by omega)
    rw [if_neg hh]
    have a2 : ∀ S, binop false .add (tM (TL.numL (H / 24))) (.str (Str.ofString ":")) S = .ok (tM (TL.numL (H / 24) ++ [58])) S := col_t false _ (by omega)
    have a3 : ∀ S, binop false .add (tM (TL.numL (H / 24) ++ [58])) (tM (two (H % 24))) S = .ok (tM (TL.numL (H / 24) ++ [58] ++ two (H % 24))) S := add_t false _ _ (by simp [two_len]; omega)
    have a4 : ∀ S, binop false .add (tM (TL.numL (H / 24) ++ [58] ++ two (H % 24))) (.str (Str.ofString ":")) S = .ok (tM (TL.numL (H / 24) ++ [58] ++ two (H % 24) ++ [58])) S := col_t false _ (by simp [two_len]; omega)
    have a5 : ∀ S, binop true .add (tM (TL.numL (H / 24) ++ [58] ++ two (H % 24) ++ [58])) (tM (two mm)) S = .ok (tM (TL.numL (H / 24) ++ [58] ++ two (H % 24) ++ [58] ++ two mm)) S := add_t true _ _ (by simp [two_len]; omega)
    have e : TL.numL (H / 24) ++ 58 :: (two (H % 24) ++ 58 :: two mm) = TL.numL (H / 24) ++ [58] ++ two (H % 24) ++ [58] ++ two mm := by simp
    rw [e]
    generalize H / 24 = D at d1 n2 a2 a3 a4 a5 h0 ⊢
    generalize H % 24 = hd at d3 t2 a3 a4 a5 ⊢
    generalize TL.numL D ++ [58] = X1 at a2 a3 a4 a5 ⊢
    generalize X1 ++ two hd = X2 at a3 a4 a5 ⊢
    generalize X2 ++ [58] = X3 at a4 a5 ⊢
    generalize X3 ++ two mm = X4 at a5 ⊢
    simp only [d_time_text]
    simp [d1, d2, d3, d4, t1, t2, bindT.go, c_eq, h0, t_bl, n2, a2, a3, a4, a5, R.when]
end K03

namespace K03
open PySem PySem.Spec L2 Mi Pg
theorem lenS_len (m : Nat) (h : m < 10 ^ 19) : (lenS m).length ≤ 40 := by
  unfold lenS
  have l1 : (TL.numL m).length ≤ 19 := numL20 h
  have l2 : (TL.numL (m / 60)).length ≤ 19 := numL20 (by omega)
  split
  · omega
  · split <;> simp [two_len] <;> omega
theorem timeS_len (m : Nat) (h : m < 10 ^ 19) : (timeS m).length ≤ 40 := by
  unfold timeS
  have l1 : (TL.numL (m / 60)).length ≤ 19 := numL20 (by omega)
  have l2 : (TL.numL (m / 60 / 24)).length ≤ 19 := numL20 (by omega)
  split <;> simp [two_len] <;> omega
set_option maxHeartbeats 0 in
theorem llen_call (k : Nat) (m : Nat) (h : m < 10 ^ 9) (S : Store) : callM (evalFn Φ (k + 2)) true "_law_length" [.int (m : Int)] S = .ok (tM (lenS m)) S := by
  have hΦ : Φ "_law_length" = some d__law_length := by rfl
  refine pcall (S' := []) (by simp [M.plain.go, M.plain]) ?_ rfl
  rw [evalFn]
  simp only [hΦ]
  have d1 : ∀ S, binop false .fdiv (.int (m : Int)) (.int 60) S = .ok (.int ((m / 60 : Nat) : Int)) S := b_div_n false m 60 (by decide)
  have d2 : ∀ S, binop false .mod (.int (m : Int)) (.int 60) S = .ok (.int ((m % 60 : Nat) : Int)) S := b_mod_n false m 60 (by decide)
  have t1 := ltwo_call k (m % 60) (by omega)
  have n1 := num_t m (by omega)
  have n2 := num_t (m / 60) (by omega)
  have l2 : (TL.numL (m / 60)).length ≤ 19 := numL20 (by omega)
  unfold lenS
  by_cases hh : m < 60
  · have hh' : (m : Int) < 60 := by omega
    rw [if_pos hh]
    simp only [d__law_length]
    simp [c_lt, hh', t_bl, n1, R.when]
  · have hh' : ¬ (m : Int) < 60 := by omega
    rw [if_neg hh]
    have a1 : ∀ S, binop false .add (tM (TL.numL (m / 60))) (.str (Str.ofString "h")) S = .ok (tM (TL.numL (m / 60) ++ [104])) S := h_t false _ (by omega)
    by_cases h0 : m % 60 = 0
    · rw [if_pos h0]
      rw [h0] at d2 t1
      have i1 : ∀ (x : M) S, ixop (.lst [x, .str (Str.ofString "")]) (.int 1) S = .ok (.str (Str.ofString "")) S := fun _ _ => rfl
      have a2 : ∀ S, binop true .add (tM (TL.numL (m / 60) ++ [104])) (.str (Str.ofString "")) S = .ok (tM (TL.numL (m / 60) ++ [104])) S := fun S => by
        rw [empty_sx]
        have := add_t true (TL.numL (m / 60) ++ [104]) [] (by simp; omega) S
        rw [List.append_nil] at this
        exact this
      have bib : ∀ S, biop .int [.bl true] S = .ok (.int 1) S := fun _ => rfl
      have t1' : ∀ S, callM (evalFn Φ (k + 1)) true "_law_two" [.int 0] S = .ok (tM (two 0)) S := t1
      have d2' : ∀ S, binop false .mod (.int (m : Int)) (.int 60) S = .ok (.int 0) S := d2
      generalize m / 60 = H at d1 n2 a1 a2 ⊢
      generalize TL.numL H ++ [104] = X1 at a1 a2 ⊢
      simp only [d__law_length]
      simp [c_lt, hh', t_bl, d1, d2', n2, a1, bi_int, t1', c_eq, bib, mkL, i1, a2, R.when, big]
    · rw [if_neg h0]
      have h0' : (((m % 60 : Nat) : Int) == 0) = false := beq_eq_false_iff_ne.mpr (by omega)
      have i0 : ∀ (x : M) S, ixop (.lst [x, .str (Str.ofString "")]) (.int 0) S = .ok x S := fun _ _ => rfl
      have a2 : ∀ S, binop true .add (tM (TL.numL (m / 60) ++ [104])) (tM (two (m % 60))) S = .ok (tM (TL.numL (m / 60) ++ [104] ++ two (m % 60))) S := add_t true _ _ (by simp [two_len]; omega)
      have bib : ∀ S, biop .int [.bl false] S = .ok (.int 0) S := fun _ => rfl
      rw [show TL.numL (m / 60) ++ 104 :: two (m % 60) = TL.numL (m / 60) ++ [104] ++ two (m % 60) by simp]
      generalize m % 60 = mm at d2 t1 a2 h0' ⊢
      generalize m / 60 = H at d1 n2 a1 a2 ⊢
      generalize TL.numL H ++ [104] = X1 at a1 a2 ⊢
      generalize X1 ++ two mm = X2 at a2 ⊢
      simp only [d__law_length]
      simp [c_lt, hh', t_bl, d1, d2, n2, a1, bi_int, t1, c_eq, h0', bib, mkL, i0, a2, R.when, big]
set_option maxHeartbeats 0 in
theorem plen_call (k : Nat) (m : Nat) (h : m < 10 ^ 9) (S : Store) : callM (evalFn Φ (k + 2)) true "length_text" [.int (m : Int)] S = .ok (tM (lenS m)) S := by
  have hΦ : Φ "length_text" = some d_length_text := by rfl
  refine pcall (S' := []) (by simp [M.plain.go, M.plain]) ?_ rfl
  rw [evalFn]
  simp only [hΦ]
  have d1 : ∀ S, binop false .fdiv (.int (m : Int)) (.int 60) S = .ok (.int ((m / 60 : Nat) : Int)) S := b_div_n false m 60 (by decide)
  have d2 : ∀ S, binop false .mod (.int (m : Int)) (.int 60) S = .ok (.int ((m % 60 : Nat) : Int)) S := b_mod_n false m 60 (by decide)
  have t1 := two_call k (m % 60) (by omega)
  have n1 := num_t m (by omega)
  have n2 := num_t (m / 60) (by omega)
  have l2 : (TL.numL (m / 60)).length ≤ 19 := numL20 (by omega)
  unfold lenS
  by_cases hh : m < 60
  · have hh' : (m : Int) < 60 := by omega
    rw [if_pos hh]
    simp only [d_length_text]
    simp [c_lt, hh', t_bl, n1, R.when]
  · have hh' : ¬ (m : Int) < 60 := by omega
    rw [if_neg hh]
    have a1 : ∀ S, binop false .add (tM (TL.numL (m / 60))) (.str (Str.ofString "h")) S = .ok (tM (TL.numL (m / 60) ++ [104])) S := h_t false _ (by omega)
    by_cases h0 : m % 60 = 0
    · rw [if_pos h0]
      rw [h0] at d2
      have a2 : ∀ S, binop true .add (tM (TL.numL (m / 60) ++ [104])) (.str (Str.ofString "")) S = .ok (tM (TL.numL (m / 60) ++ [104])) S := fun S => by
        rw [empty_sx]
        have := add_t true (TL.numL (m / 60) ++ [104]) [] (by simp; omega) S
        rw [List.append_nil] at this
        exact this
      have d2' : ∀ S, binop false .mod (.int (m : Int)) (.int 60) S = .ok (.int 0) S := d2
      generalize m / 60 = H at d1 n2 a1 a2 ⊢
      generalize TL.numL H ++ [104] = X1 at a1 a2 ⊢
      simp only [d_length_text]
      simp [c_lt, hh', t_bl, d1, d2', n2, a1, c_gt, a2, R.when]
    · rw [if_neg h0]
      have h0' : (0 : Int) < ((m % 60 : Nat) : Int) := by omega
      have a2 : ∀ S, binop true .add (tM (TL.numL (m / 60) ++ [104])) (tM (two (m % 60))) S = .ok (tM (TL.numL (m / 60) ++ [104] ++ two (m % 60))) S := add_t true _ _ (by simp [two_len]; omega)
      rw [show TL.numL (m / 60) ++ 104 :: two (m % 60) = TL.numL (m / 60) ++ [104] ++ two (m % 60) by simp]
      have hc : ∀ S, cmpop .gt (.int ((m % 60 : Nat) : Int)) (.int 0) S = .ok (.bl true) S := fun S => by rw [c_gt, decide_eq_true h0']
      generalize m % 60 = mm at d2 t1 a2 hc ⊢
      generalize m / 60 = H at d1 n2 a1 a2 ⊢
      generalize TL.numL H ++ [104] = X1 at a1 a2 ⊢
      generalize X1 ++ two mm = X2 at a2 ⊢
      simp only [d_length_text]
      simp [c_lt, hh', t_bl, d1, d2, n2, a1, hc, t1, a2, R.when]
/-! ### what is read of them -/
theorem spl_free {c : Nat} : ∀ (a acc : List Nat), c ∉ a → TL.spl [c] 0 acc a = [acc ++ a]
  | [], acc, _ => by rw [TL.spl_nil, List.append_nil]
  | d :: a, acc, h => by
    simp only [List.mem_cons, not_or] at h
    rw [spl_cons, if_neg (Ne.symm h.1), spl_free a _ h.2, List.append_assoc]
    rfl
theorem spl_at {c : Nat} : ∀ (a acc r : List Nat), c ∉ a → TL.spl [c] 0 acc (a ++ c :: r) = (acc ++ a) :: TL.spl [c] 0 [] r
  | [], acc, r, _ => by rw [List.nil_append, spl_cons, if_pos rfl, List.append_nil]
  | d :: a, acc, r, h => by
    simp only [List.mem_cons, not_or] at h
    rw [List.cons_append, spl_cons, if_neg (Ne.symm h.1), spl_at a _ r h.2, List.append_assoc]
    rfl
theorem two_free {c n : Nat} (hn : n < 100) (h : c < 48 ∨ 57 < c) : c ∉ two n := by
  unfold two
  simp only [List.mem_cons, List.not_mem_nil, or_false]
  omega
theorem fig_num {n : Nat} (h : n < 10 ^ 9) : fig 9 (TL.numL n) = true ∧ val (TL.numL n) = n := by
  refine ⟨?_, by unfold val; rw [TL.numL_val]⟩
  unfold fig
  simp only [Bool.and_eq_true, decide_eq_true_eq, List.all_eq_true]
  refine ⟨⟨List.length_pos_iff.mpr (TL.numL_ne n), TL.numL_len (by decide) h⟩, fun c hc => ?_⟩
  have := TL.numL_digits n c hc
  unfold dig
  rw [decide_eq_true_eq]
  exact this
theorem fig_two {n : Nat} (h : n < 100) : fig 9 (two n) = true ∧ val (two n) = n := by
  constructor
  · unfold fig two dig
    simp only [List.length_cons, List.length_nil, List.all_cons, List.all_nil, Bool.and_true, Bool.and_eq_true, decide_eq_true_eq]
    omega
  · unfold val two NumText.digitsVal
    simp only [List.foldl_cons, List.foldl_nil]
    omega
theorem timeV_S (m : Nat) (h : m < 1440 * 10 ^ 9) : timeV (timeS m) = some (m : Int) := by
  unfold timeV cutW timeS
  obtain ⟨f2, v2⟩ := fig_two (n := m % 60) (by omega)
  by_cases hh : m / 60 < 24
  · rw [if_pos hh, spl_at _ _ _ (TL.numL_free (by omega)), spl_free _ _ (two_free (by omega) (by omega))]
    obtain ⟨f1, v1⟩ := fig_num (n := m / 60) (by omega)
    simp only [List.nil_append, timeW]
    rw [if_pos ⟨f1, f2⟩]
    unfold t3
    rw [v1, v2, if_pos ⟨two_len _, by omega, by omega⟩]
    exact congrArg some (by omega)
  · rw [if_neg hh, spl_at _ _ _ (TL.numL_free (by omega)), spl_at _ _ _ (two_free (by omega) (by omega)), spl_free _ _ (two_free (by omega) (by omega))]
    obtain ⟨f1, v1⟩ := fig_num (n := m / 60 / 24) (by omega)
    obtain ⟨f3, v3⟩ := fig_two (n := m / 60 % 24) (by omega)
    simp only [List.nil_append, timeW]
    rw [if_pos ⟨f1, f3, f2⟩]
    unfold t3
    rw [v1, v2, v3, if_pos ⟨two_len _, by omega, by omega⟩]
    exact congrArg some (by omega)
theorem lenV_num (m : Nat) (h : m < 10 ^ 9) : lenV (TL.numL m) = some (m : Int) := by
  unfold lenV cutW
  obtain ⟨f1, v1⟩ := fig_num h
  rw [spl_free _ _ (TL.numL_free (by omega)), List.nil_append]
  simp only [lenW]
  rw [if_pos f1, v1]
theorem lenV_S (m : Nat) (h : m < 10 ^ 9) : lenV (lenS m) = some (m : Int) := by
  unfold lenS
  by_cases hh : m < 60
  · rw [if_pos hh]
    exact lenV_num m h
  · rw [if_neg hh]
    obtain ⟨f1, v1⟩ := fig_num (n := m / 60) (by omega)
    unfold lenV cutW
    rw [spl_at _ _ _ (TL.numL_free (by omega))]
    by_cases h0 : m % 60 = 0
    · rw [if_pos h0, TL.spl_nil, List.nil_append]
      simp only [lenW]
      rw [if_pos f1, v1]
      simp only [if_true]
      exact congrArg some (by omega)
    · rw [if_neg h0, spl_free _ _ (two_free (by omega) (by omega))]
      obtain ⟨f2, v2⟩ := fig_two (n := m % 60) (by omega)
      simp only [List.nil_append, lenW]
      rw [if_pos f1, if_neg (by simp [two]), v1, v2, if_pos ⟨two_len _, f2, by omega⟩]
      exact congrArg some (by omega)
end K03

namespace K03
open PySem PySem.Spec L2 Mi Pg
/-! ### drawn texts -/
theorem str_t (z : Str) : M.str z = tM z.cps.toList := congrArg M.str (sx_of rfl)
theorem joinL_len (S : List Nat) : ∀ ps : List (List Nat), (TL.joinL S ps).length ≤ (ps.map List.length).sum + ps.length * S.length
  | [] => by simp [TL.joinL]
  | [p] => by show p.length ≤ _; simp
  | p :: q :: r => by
    have := joinL_len S (q :: r)
    show (p ++ (S ++ TL.joinL S (q :: r))).length ≤ _
    simp only [List.length_append, List.map_cons, List.sum_cons, List.length_cons, Nat.add_mul, Nat.one_mul] at this ⊢
    omega
theorem sum_le (n : Nat) : ∀ ls : List (List Nat), (∀ l ∈ ls, l.length ≤ n) → (ls.map List.length).sum ≤ ls.length * n
  | [], _ => by simp
  | l :: ls, h => by
    have h1 := h l List.mem_cons_self
    have h2 := sum_le n ls fun x hx => h x (List.mem_cons_of_mem _ hx)
    simp only [List.map_cons, List.sum_cons, List.length_cons, Nat.add_mul, Nat.one_mul]
    omega
theorem strs_t : ∀ ls : List (List Nat), strsOf (ls.map tM) = some (ls.map sx)
  | [] => rfl
  | l :: ls => by
    show (strsOf (ls.map tM)).map (sx l :: ·) = _
    rw [strs_t ls]
    rfl
theorem join_t (s : List Nat) (ls : List (List Nat)) (n : Nat) (h : ∀ l ∈ ls, l.length ≤ n) (hb : ls.length * n + ls.length * s.length ≤ 900) (S : Store) : ∃ l, joinop (sx s) (.lst (ls.map tM)) S = .ok (tM l) S ∧ l.length ≤ ls.length * n + ls.length * s.length := by
  have hs := sum_le n ls h
  have e1 : (ls.map sx).map (·.length) = ls.map List.length := by
    rw [List.map_map]
    exact List.map_congr_left fun l _ => sx_len l
  have e2 : ((seqOf S (.lst (ls.map tM))).bind strsOf) = some (ls.map sx) := strs_t ls
  refine ⟨(Txt.join (sx s) (ls.map sx)).cps.toList, ?_, ?_⟩
  · have hw : ((ls.map sx).map (·.length)).sum + (ls.map sx).length * (sx s).length ≤ 1000000 := by
      rw [e1, List.length_map, sx_len]
      omega
    unfold joinop
    rw [e2, R.of_some, R.when_true hw, str_t]
  · have : (Txt.join (sx s) (ls.map sx)).cps.toList = TL.joinL s ls := by
      rw [TL.join_eq]
      have := TL.tl_join (sx s) (ls.map sx)
      rw [show TL.tl (sx s) = s from sx_tl s, List.map_map] at this
      have e3 : ls.map (TL.tl ∘ sx) = ls := by
        conv => rhs; rw [← List.map_id ls]
        exact List.map_congr_left fun l _ => sx_tl l
      rw [e3] at this
      exact this
    rw [this]
    have := joinL_len s ls
    omega
theorem cutS_to (l : List Nat) {z : Int} (h0 : 0 ≤ z) : cutS (sx l) none (some z) = sx (l.take z.toNat) := by
  obtain ⟨n, rfl⟩ : ∃ n : Nat, z = n := ⟨z.toNat, by omega⟩
  refine sx_of ?_
  unfold cutS
  rw [HT.sIx_nat, HT.sIx_none, sx_tl, sx_len]
  simp
theorem cutS_from (l : List Nat) {z : Int} (h0 : 0 ≤ z) : cutS (sx l) (some z) none = sx (l.drop z.toNat) := by
  obtain ⟨n, rfl⟩ : ∃ n : Nat, z = n := ⟨z.toNat, by omega⟩
  refine sx_of ?_
  unfold cutS
  rw [HT.sIx_nat, HT.sIx_none, sx_tl, sx_len]
  simp
  rcases Nat.le_total n l.length with h | h
  · rw [Nat.min_eq_left h, ← List.length_drop, List.take_length]
  · rw [Nat.min_eq_right h, Nat.sub_self, List.drop_eq_nil_of_le h]
    simp
theorem ssl_to (l : List Nat) (hl : l.length ≤ 1000) {z : Int} (h0 : 0 ≤ z) (S : Store) : sslop (tM l) none (some z) S = .ok (tM (l.take z.toNat)) S := by
  show R.when ((sx l).length ≤ big) (R.ok (M.str (cutS (sx l) none (some z))) S) = _
  rw [R.when_true (by rw [sx_len]; unfold big; omega), cutS_to l h0]
  rfl
theorem ssl_from (l : List Nat) (hl : l.length ≤ 1000) {z : Int} (h0 : 0 ≤ z) (S : Store) : sslop (tM l) (some z) none S = .ok (tM (l.drop z.toNat)) S := by
  show R.when ((sx l).length ≤ big) (R.ok (M.str (cutS (sx l) (some z) none)) S) = _
  rw [R.when_true (by rw [sx_len]; unfold big; omega), cutS_from l h0]
  rfl
/-- one of a tuple of things -/
theorem ofT_ok (k : Nat) (l : List M) (hl : l ≠ []) (hn : l.length ≤ 1000) {S T : Store} (h : Rn S T) {P : M → Store → Prop} (hP : ∀ v S', Rn S' T → v ∈ l → P v S') : Wp (evalFn Φ (k + 2) "_law_of" [.ref 2, .tup l] S) P := by
  have hΦ : Φ "_law_of" = some d__law_of := by rfl
  refine wp_fn hΦ rfl ?_
  have hp : 0 < l.length := List.length_pos_iff.mpr hl
  simp [d__law_of, bi_lent]
  refine ripple k l.length (by omega) h fun v S' r a b => ?_
  refine wp_ixt a (by omega) fun z hz => ?_
  exact hP z S' r hz
set_option maxHeartbeats 0 in
theorem word_ok (k : Nat) {S T : Store} (h : Rn S T) {P : M → Store → Prop} (hP : ∀ l S', Rn S' T → l.length ≤ 12 → P (tM l) S') : Wp (evalFn Φ (k + 3) "_law_word" [.ref 2] S) P := by
  have hΦ : Φ "_law_word" = some d__law_word := by rfl
  refine wp_fn hΦ rfl ?_
  have mk0 : ∀ (l : List M) S, mkL false l S = .ok (.lst l) S := fun _ _ => rfl
  simp only [d__law_word, List.map_cons, List.map_nil, List.cons_append, List.nil_append, List.length_cons, List.length_nil, List.replicate, Nat.reduceAdd, Nat.reduceSub]
  rw [q_scons, wp_bind, q_set]
  simp only [q_call, q_cons, q_nil, q_var, varM_s, varM_0, q_cint, R.bind_ok, callM_false, wp_bind]
  refine ripple (k + 1) 9 (by decide) h fun way S1 r1 a1 b1 => ?_
  simp only [wp_ok, nextM_nx, List.set_cons_succ, List.set_cons_zero]
  rw [q_scons, wp_bind, q_ifS, q_Tv, q_cmp]
  simp only [q_var, varM_s, varM_0, q_cint, R.bind_ok, c_lt, t_bl, R.of_some]
  by_cases w4 : way < 4
  · simp only [w4, decide_true, if_true]
    rw [q_scons, wp_bind, q_ret]
    simp only [q_call, q_cons, q_nil, q_tup, q_var, varM_s, varM_0, q_cint, R.bind_ok, callM_false, wp_bind]
    refine ripple (k + 1) 100 (by decide) r1 fun v S2 r2 a2 b2 => ?_
    simp only [wp_ok, List.length_cons, List.length_nil, Nat.reduceAdd, wp_when, wp_bind]
    refine ⟨by decide, ?_⟩
    have := fun {P : M → Store → Prop} hP => of_ok k [0, 9, 23, 24, 59, 60, 99, v] (by simp) (by simp) r2 (P := P) hP
    simp only [im, List.map_cons, List.map_nil] at this
    refine this fun z S3 r3 hz => ?_
    obtain ⟨n, rfl, hn⟩ : ∃ n : Nat, z = n ∧ n < 100 := by
      simp only [List.mem_cons, List.not_mem_nil, or_false] at hz
      exact ⟨z.toNat, by omega, by omega⟩
    have e := ltwo_call (k + 1) n hn S3
    simp only [wp_ok, e, nextM_ret, fin_ret]
    exact hP _ S3 r3 (by rw [two_len]; omega)
  · simp only [w4, decide_false, Bool.false_eq_true, if_false, q_snil, wp_ok, nextM_nx]
    rw [q_scons, wp_bind, q_ifS, q_Tv, q_cmp]
    simp only [q_var, varM_s, varM_0, q_cint, R.bind_ok, c_eq, t_bl, R.of_some]
    by_cases w5 : way = 4
    · have w5' : (way == 4) = true := by simpa using w5
      simp only [w5', if_true]
      rw [q_scons, wp_bind, q_ret]
      simp only [q_bi, q_call, q_cons, q_nil, q_var, varM_s, varM_0, q_cint, R.bind_ok, callM_false, wp_bind]
      refine ripple (k + 1) 10 (by decide) r1 fun v S2 r2 a2 b2 => ?_
      obtain ⟨n, rfl, hn⟩ : ∃ n : Nat, v = n ∧ n < 10 := ⟨v.toNat, by omega, by omega⟩
      simp only [wp_ok, num_t n (by omega), nextM_ret, fin_ret]
      refine hP _ S2 r2 ?_
      rw [TL.numL_lt hn]; simp
    · have w5' : (way == 4) = false := beq_eq_false_iff_ne.mpr w5
      simp only [w5', Bool.false_eq_true, if_false, q_snil, wp_ok, nextM_nx]
      rw [q_scons, wp_bind, q_set]
      simp only [q_call, q_cons, q_nil, q_tup, q_var, varM_s, varM_0, q_cint, R.bind_ok, List.length_cons, List.length_nil, Nat.reduceAdd, R.when_true (show (8 : Nat) ≤ big by decide), callM_false, wp_bind]
      have := fun {P : M → Store → Prop} hP => of_ok k [1, 2, 3, 8, 9, 10, 0, 11] (by simp) (by simp) r1 (P := P) hP
      simp only [im, List.map_cons, List.map_nil] at this
      refine this fun z S2 r2 hz => ?_
      obtain ⟨n, rfl, hn⟩ : ∃ n : Nat, z = n ∧ n ≤ 11 := by
        simp only [List.mem_cons, List.not_mem_nil, or_false] at hz
        exact ⟨z.toNat, by omega, by omega⟩
      have hr : RgOk' 0 (n : Int) := rg_len _ (by omega)
      simp only [wp_ok, nextM_nx, List.set_cons_succ, List.set_cons_zero]
      have he : strOf (M.str (Str.ofString "")) = some (sx []) := by rw [empty_sx]; rfl
      rw [q_scons, wp_bind, q_ret, q_join]
      simp only [q_cstr, R.bind_ok, he, R.of_some, q_lc, q_Ir1, q_var, varM_s, varM_0, intM_int, R.when_true hr, wp_bind]
      unfold lcRun
      rw [wp_when]
      refine ⟨by show (rangeL 0 (n : Int)).length ≤ big; rw [len_range]; unfold big; omega, ?_⟩
      refine wp_compI (s := ⟨rangeL 0 (n : Int), .tup [], []⟩) (fun S => Rn S T) (fun _ _ => rfl) (fun _ y => ∃ c, y = tM [c]) _ S2 r2 ?_ ?_
      · intro x hx S3 r3
        unfold turnP
        rw [bt_nm, R.of_some, q_tno, R.bind_ok, if_pos rfl]
        rw [wp_calm]
        simp only [wipeE, List.set_cons_succ, List.set_cons_zero, q_six, q_cstr, q_call, q_cons, q_nil, q_var, varM_s, varM_0, q_cint, R.bind_ok, callM_false, wp_bind]
        refine ripple (k + 1) 10 (by decide) r3 fun v S4 r4 a4 b4 => ?_
        obtain ⟨d, rfl, hd⟩ : ∃ d : Nat, v = d ∧ d < 10 := ⟨v.toNat, by omega, by omega⟩
        simp only [six_dig d hd, wp_ok]
        exact ⟨r4, _, rfl, _, rfl⟩
      · intro r S3 r3 hlen hA
        have hlen : r.length = (rangeL 0 (n : Int)).length := hlen
        rw [len_range] at hlen
        obtain ⟨ls, rfl, hls⟩ : ∃ ls : List (List Nat), r = ls.map tM ∧ ∀ l ∈ ls, l.length ≤ 1 := by
          have key : ∀ r : List M, (∀ y ∈ r, ∃ c, y = tM [c]) → ∃ ls : List (List Nat), r = ls.map tM ∧ ∀ l ∈ ls, l.length ≤ 1 := by
            intro r
            induction r with
            | nil => exact fun _ => ⟨[], rfl, by simp⟩
            | cons m r ih =>
              intro hm
              obtain ⟨c, rfl⟩ := hm m List.mem_cons_self
              obtain ⟨ls, rfl, h2⟩ := ih fun y hy => hm y (List.mem_cons_of_mem _ hy)
              exact ⟨[c] :: ls, rfl, fun l hl => by
                rcases List.mem_cons.mp hl with rfl | hl
                · simp
                · exact h2 l hl⟩
          refine key r fun y hy => ?_
          obtain ⟨i, hi, e⟩ := List.getElem_of_mem hy
          have hi' : i < (rangeL 0 (n : Int)).length := by rw [len_range]; omega
          exact hA i _ y (List.getElem?_eq_getElem hi') (by rw [List.getElem?_eq_getElem hi, e])
        rw [List.length_map] at hlen
        obtain ⟨l, e, hl⟩ := join_t [] ls 1 hls (by simp; omega) S3
        simp only [mk0, wp_ok, e, nextM_ret, fin_ret]
        exact hP l S3 r3 (by simp at hl; omega)
set_option maxHeartbeats 0 in
theorem bent_ok (k : Nat) (l : List Nat) (hl : l.length ≤ 500) {S T : Store} (h : Rn S T) {P : M → Store → Prop} (hP : ∀ l' S', Rn S' T → l'.length ≤ 510 → P (tM l') S') : Wp (evalFn Φ (k + 3) "_law_bent" [.ref 2, tM l] S) P := by
  have hΦ : Φ "_law_bent" = some d__law_bent := by rfl
  refine wp_fn hΦ rfl ?_
  have mk0 : ∀ (l : List M) S, mkL false l S = .ok (.lst l) S := fun _ _ => rfl
  simp only [d__law_bent, List.map_cons, List.map_nil, List.cons_append, List.nil_append, List.length_cons, List.length_nil, List.replicate, Nat.reduceAdd, Nat.reduceSub]
  rw [q_scons, wp_bind, q_set]
  simp only [q_call, q_cons, q_nil, q_bin, q_bi, q_var, varM_s, varM_0, q_cint, R.bind_ok, len_t l (by omega), b_add, callM_false, wp_bind]
  refine ripple (k + 1) ((l.length : Int) + 1) (by omega) h fun v S1 r1 a1 b1 => ?_
  simp only [wp_ok, nextM_nx, List.set_cons_succ, List.set_cons_zero]
  rw [q_scons, wp_bind, q_set]
  simp only [q_call, q_cons, q_nil, q_tup, q_var, varM_s, varM_0, q_cstr, R.bind_ok, List.length_cons, List.length_nil, Nat.reduceAdd, R.when_true (show (14 : Nat) ≤ big by decide), callM_false, wp_bind]
  refine ofT_ok k _ (by simp) (by simp) r1 fun sg S2 r2 hsg => ?_
  obtain ⟨s, rfl, hs⟩ : ∃ s : List Nat, sg = tM s ∧ s.length ≤ 2 := by
    simp only [List.mem_cons, List.not_mem_nil, or_false] at hsg
    rcases hsg with rfl | rfl | rfl | rfl | rfl | rfl | rfl | rfl | rfl | rfl | rfl | rfl | rfl | rfl <;> exact ⟨_, str_t _, by decide +kernel⟩
  have v0 : 0 ≤ v := a1
  have t1 := fun S => ssl_to l (by omega) v0 S
  have t2 := fun S => ssl_from l (by omega) v0 S
  have t3 := fun S => ssl_from l (by omega) (show 0 ≤ v + 1 by omega) S
  have h1 : (l.take v.toNat).length ≤ 500 := by rw [List.length_take]; omega
  have h2 : (l.drop v.toNat).length ≤ 500 := by rw [List.length_drop]; omega
  have h3 : (l.drop (v + 1).toNat).length ≤ 500 := by rw [List.length_drop]; omega
  have h12 : (l.take v.toNat).length + (l.drop v.toNat).length = l.length := by rw [List.length_take, List.length_drop]; omega
  have h13 : (l.take v.toNat).length + (l.drop (v + 1).toNat).length ≤ l.length := by rw [List.length_take, List.length_drop]; omega
  generalize l.take v.toNat = A at t1 h1 h12 h13
  generalize l.drop v.toNat = B at t2 h2 h12
  generalize l.drop (v + 1).toNat = D at t3 h3 h13
  have p1 := fun S => add_t false A s (by omega) S
  have p2 := fun S => add_t false (A ++ s) B (by simp; omega) S
  have p3 := fun S => add_t false A D (by omega) S
  have p4 := fun S => add_t false (A ++ s) D (by simp; omega) S
  have p5 : ∀ S, binop false .add (.str (Str.ofString "0")) (tM l) S = .ok (tM ([48] ++ l)) S := fun S => by rw [zero_s]; exact add_t false [48] l (by simp; omega) S
  have p6 : ∀ S, binop false .add (tM l) (.str (Str.ofString "0")) S = .ok (tM (l ++ [48])) S := fun S => by rw [zero_s]; exact add_t false l [48] (by simp; omega) S
  simp only [wp_ok, nextM_nx, List.set_cons_succ, List.set_cons_zero]
  rw [q_scons, wp_bind, q_ret, q_ix, q_lst]
  simp only [q_call, q_cons, q_nil, q_bin, q_ssl, q_ono, q_oso, q_var, varM_s, varM_0, q_cint, q_cstr, R.bind_ok, intM_int, b_add, t1, t2, t3, p1, p2, p3, p4, p5, p6, List.length_cons, List.length_nil, Nat.reduceAdd, R.when_true (show (5 : Nat) ≤ big by decide), mk0, callM_false, wp_bind]
  refine ripple (k + 1) 5 (by decide) r2 fun w S3 r3 a3 b3 => ?_
  refine wp_ixl a3 (by simpa using b3) fun y hy => ?_
  simp only [wp_ok, nextM_ret, fin_ret]
  simp only [List.mem_cons, List.not_mem_nil, or_false] at hy
  rcases hy with rfl | rfl | rfl | rfl | rfl <;> refine hP _ S3 r3 ?_ <;> simp <;> omega
set_option maxHeartbeats 0 in
theorem minute_ok (k : Nat) {S T : Store} (h : Rn S T) {P : M → Store → Prop} (hP : ∀ n S', Rn S' T → n ≤ 9999 → P (.int ((n : Nat) : Int)) S') : Wp (evalFn Φ (k + 3) "_law_minute" [.ref 2] S) P := by
  have hΦ : Φ "_law_minute" = some d__law_minute := by rfl
  refine wp_fn hΦ rfl ?_
  simp only [d__law_minute, List.map_cons, List.map_nil, List.cons_append, List.nil_append, List.length_cons, List.length_nil, List.replicate, Nat.reduceAdd, Nat.reduceSub]
  rw [q_scons, wp_bind, q_set]
  simp only [q_call, q_cons, q_nil, q_tup, q_var, varM_s, varM_0, q_cint, R.bind_ok, List.length_cons, List.length_nil, Nat.reduceAdd, R.when_true (show (9 : Nat) ≤ big by decide), callM_false, wp_bind]
  have o1 := fun {P : M → Store → Prop} hP => of_ok k [0, 60, 1440, 600, 2880, 8640, 9999, 1500, 100] (by simp) (by simp) h (P := P) hP
  simp only [im, List.map_cons, List.map_nil] at o1
  refine o1 fun z S1 r1 hz => ?_
  simp only [wp_ok, nextM_nx, List.set_cons_succ, List.set_cons_zero]
  rw [q_scons, wp_bind, q_ret]
  simp only [q_bi, q_call, q_cons, q_nil, q_tup, q_bin, q_var, varM_s, varM_0, q_cint, R.bind_ok, callM_false, wp_bind]
  refine ripple (k + 1) 3 (by decide) r1 fun v1 S2 r2 a2 b2 => ?_
  simp only [b_add, b_sub, wp_ok]
  refine ripple (k + 1) 1440 (by decide) r2 fun v2 S3 r3 a3 b3 => ?_
  try simp only [wp_ok]
  refine ripple (k + 1) 60 (by decide) r3 fun v3 S4 r4 a4 b4 => ?_
  try simp only [wp_ok]
  refine ripple (k + 1) 10000 (by decide) r4 fun v4 S5 r5 a5 b5 => ?_
  simp only [wp_ok, List.length_cons, List.length_nil, Nat.reduceAdd, wp_when]
  refine ⟨by decide, ?_⟩
  have o2 := fun {P : M → Store → Prop} hP => of_ok k [z + v1 - 1, v2, v3, v4, z + 59] (by simp) (by simp) r5 (P := P) hP
  simp only [im, List.map_cons, List.map_nil] at o2
  refine o2 fun y S6 r6 hy => ?_
  simp only [wp_ok, bi_max, bi_min, nextM_ret, fin_ret]
  obtain ⟨n, hn, hn2⟩ : ∃ n : Nat, (if (if y > 0 then y else 0) < 9999 then (if y > 0 then y else 0) else 9999 : Int) = n ∧ n ≤ 9999 := by
    refine ⟨(if (if y > 0 then y else 0) < 9999 then (if y > 0 then y else 0) else 9999 : Int).toNat, ?_, ?_⟩ <;> split <;> (try split) <;> omega
  rw [hn]
  exact hP n S6 r6 hn2
end K03

namespace Pg
open PySem PySem.Spec L2 Mi
/-! ### the program: numbers, ends (texts printed by gen.py) -/
def d_is_integer : Fn := ⟨["thing"], [], 1, (.cons (.ret (.and (.isi (.var 0) ["int"]) (.one (.not (.isi (.var 0) ["bool"]))))) .nil)⟩
def d_is_number : Fn := ⟨["thing"], [], 1, (.cons (.ret (.and (.call true "is_integer" (.cons (.var 0) .nil)) (.one (.cmp .ge (.var 0) (.con (.int 0)))))) .nil)⟩
def d_is_upto : Fn := ⟨["thing", "most"], [], 2, (.cons (.ret (.and (.call true "is_number" (.cons (.var 0) .nil)) (.one (.cmp .le (.var 0) (.var 1))))) .nil)⟩
def d_worth_sum : Fn := ⟨["book", "wishes"], [], 3, (.cons (.ret (.bi .sum (.cons (.lc false (.nm 2) (.val (.var 1)) .no (.ix (.ix (.ix (.var 0) (.con (.int 1))) (.var 2)) (.con (.int 3))) [2]) .nil))) .nil)⟩
def d_worth_of : Fn := ⟨["book", "wishes"], [(0, [1, 0])], 2, (.cons (.ret (.call true "worth_sum" (.cons (.var 0) (.cons (.var 1) .nil)))) .nil)⟩
def d_missing_wishes : Fn := ⟨["book", "part"], [(0, [1, 0])], 4, (.cons (.ret (.bi .tuple (.cons (.lc false (.nm 2) (.val (.call true "all_numbers" (.cons (.var 0) .nil))) (.so (.and (.v (.cmp .notin (.var 2) (.var 1))) (.one (.not (.v (.anyg false (.nm 3) (.val (.var 1)) .no (.call true "do_clash" (.cons (.var 0) (.cons (.var 2) (.cons (.var 3) .nil)))) [3])))))) (.var 2) [2]) .nil))) .nil)⟩
def d_check_part : Fn := ⟨["book", "thing"], [], 5, (.cons (.ife (.not (.v (.isi (.var 1) ["tuple"]))) (.cons (.raise "BadEnd" ["at", "word"] (.cons (.neg (.con (.int 1))) (.cons (.con (.str "shape")) .nil))) .nil) .nil) (.cons (.for_ (.tu [2, 3]) (.enum (.var 1)) (.cons (.ife (.not (.v (.call true "is_upto" (.cons (.var 3) (.cons (.bin false .sub (.bi .len (.cons (.ix (.var 0) (.con (.int 1))) .nil)) (.con (.int 1))) .nil))))) (.cons (.raise "BadEnd" ["at", "word"] (.cons (.var 2) (.cons (.con (.str "wish")) .nil))) .nil) .nil) (.cons (.ife (.and (.v (.cmp .gt (.var 2) (.con (.int 0)))) (.one (.v (.cmp .le (.var 3) (.ix (.var 1) (.bin false .sub (.var 2) (.con (.int 1)))))))) (.cons (.raise "BadEnd" ["at", "word"] (.cons (.var 2) (.cons (.con (.str "rise")) .nil))) .nil) .nil) .nil))) (.cons (.for_ (.tu [2, 3]) (.enum (.var 1)) (.cons (.ife (.v (.anyg false (.nm 4) (.val (.var 1)) .no (.call true "do_clash" (.cons (.var 0) (.cons (.var 3) (.cons (.var 4) .nil)))) [4])) (.cons (.raise "BadEnd" ["at", "word"] (.cons (.var 2) (.cons (.con (.str "clash")) .nil))) .nil) .nil) .nil)) .nil)))⟩
def d_check_end : Fn := ⟨["book", "thing"], [(0, [1, 0])], 3, (.cons (.exp (.call true "check_part" (.cons (.var 0) (.cons (.var 1) .nil)))) (.cons (.set 2 (.call true "missing_wishes" (.cons (.var 0) (.cons (.var 1) .nil)))) (.cons (.ife (.v (.var 2)) (.cons (.raise "BadEnd" ["at", "word"] (.cons (.ix (.var 2) (.con (.int 0))) (.cons (.con (.str "missing")) .nil))) .nil) .nil) (.cons (.ret (.call true "worth_sum" (.cons (.var 0) (.cons (.var 1) .nil)))) .nil))))⟩
def d_is_end (xnames : List String) : Fn := ⟨["book", "thing"], [(0, [1, 0])], 2, (.cons (.try_ xnames (.cons (.exp (.call true "check_end" (.cons (.var 0) (.cons (.var 1) .nil)))) .nil) [⟨"BadEnd", none, (.one (.con (.bl false))), none⟩]) (.cons (.ret (.con (.bl true))) .nil))⟩
def d_is_part (xnames : List String) : Fn := ⟨["book", "thing"], [(0, [1, 0])], 2, (.cons (.try_ xnames (.cons (.exp (.call true "check_part" (.cons (.var 0) (.cons (.var 1) .nil)))) .nil) [⟨"BadEnd", none, (.one (.con (.bl false))), none⟩]) (.cons (.ret (.con (.bl true))) .nil))⟩
/-- a value that is no object and no script -/
def Ty (m : M) : Prop := M.noref m = true ∧ ∀ l, m ≠ .scr l
theorem de_ty (S : Store) {m : M} (h : Ty m) : derefA S m = some m := by
  obtain ⟨h, _⟩ := h
  cases m <;> simp_all [derefA, M.noref]
theorem ty_int (i : Int) : Ty (.int i) := ⟨rfl, by simp⟩
theorem ty_tup {l : List M} (h : ∀ m ∈ l, Ty m) : Ty (.tup l) := by
  refine ⟨?_, by simp⟩
  simp only [M.noref]
  induction l with
  | nil => rfl
  | cons a l ih =>
    simp only [M.noref.go, Bool.and_eq_true]
    exact ⟨(h a List.mem_cons_self).1, ih fun m hm => h m (List.mem_cons_of_mem _ hm)⟩
theorem ty_lst {l : List M} (h : ∀ m ∈ l, Ty m) : Ty (.lst l) := ⟨by have := (ty_tup h).1; simpa [M.noref] using this, by simp⟩
def isUp (n : Nat) : M → Bool
  | .int i => decide (0 ≤ i ∧ i < n)
  | _ => false
/-- a thing: no object, a tuple of such of bounded length -/
def Th (m : M) : Prop := Ty m ∧ ∀ l, m = .tup l → (∀ x ∈ l, Ty x) ∧ l.length ≤ 1000
theorem th_tup {l : List M} (h : ∀ m ∈ l, Ty m) (hl : l.length ≤ 1000) : Th (.tup l) := ⟨ty_tup h, fun l' e => by cases e; exact ⟨h, hl⟩⟩
theorem ty_im (l : List Int) : ∀ m ∈ im l, Ty m := fun m h => by
  unfold im at h
  obtain ⟨i, _, rfl⟩ := List.mem_map.mp h
  exact ty_int i
theorem th_om (ord : List Int) (h : ord.length ≤ 1000) : Th (om ord) := th_tup (ty_im ord) (by simpa using h)
theorem de_th {m : M} (h : Th m) (c : Int) (ws : List W) (S : Store) : derefs S [bk c ws, m] = some [bk c ws, m] := by simp [derefs, de_plain S (bk c ws), de_ty S h.1]
section
variable {Φ : Tx} [Has Φ "is_integer" d_is_integer]
theorem integer_eq (k : Nat) (m : M) (h : Ty m) : evalFn Φ (k + 1) "is_integer" [m] [] = .ok (.bl (match m with | .int _ => true | _ => false)) [] := by
  rw [has_eq d_is_integer]
  obtain ⟨h1, h2⟩ := h
  cases m <;> simp [d_is_integer, isiop, tyOf, isTy, R.when, M.noref] at h1 h2 ⊢
theorem integer_call (k : Nat) (m : M) (h : Ty m) (S : Store) : callM (evalFn Φ (k + 1)) true "is_integer" [m] S = .ok (.bl (match m with | .int _ => true | _ => false)) S :=
  pure_call (by simp [derefs, de_ty S h]) (integer_eq k m h) rfl
variable [Has Φ "is_number" d_is_number]
theorem number_eq (k : Nat) (m : M) (h : Ty m) : evalFn Φ (k + 2) "is_number" [m] [] = .ok (.bl (match m with | .int i => decide (0 ≤ i) | _ => false)) [] := by
  rw [has_eq d_is_number]
  have e := integer_call (Φ := Φ) k m h
  obtain ⟨h1, h2⟩ := h
  cases m <;> simp [d_is_number, e, R.when, cmpop, M.noref] at h1 h2 ⊢
theorem number_call (k : Nat) (m : M) (h : Ty m) (S : Store) : callM (evalFn Φ (k + 2)) true "is_number" [m] S = .ok (.bl (match m with | .int i => decide (0 ≤ i) | _ => false)) S :=
  pure_call (by simp [derefs, de_ty S h]) (number_eq k m h) rfl
variable [Has Φ "is_upto" d_is_upto]
theorem upto_eq (k n : Nat) (m : M) (h : Ty m) : evalFn Φ (k + 3) "is_upto" [m, .int ((n : Int) - 1)] [] = .ok (.bl (isUp n m)) [] := by
  rw [has_eq d_is_upto]
  have e := number_call (Φ := Φ) k m h
  obtain ⟨h1, h2⟩ := h
  cases m with
  | int i =>
    by_cases c1 : 0 ≤ i
    · simp [d_is_upto, e, R.when, cmpop, isUp, c1]
      by_cases c2 : i < n
      · simp [c2]; omega
      · simp [c2]; omega
    · simp [d_is_upto, e, R.when, cmpop, isUp, c1]
  | ref n => simp [M.noref] at h1
  | scr l => exact absurd rfl (h2 l)
  | _ => simp [d_is_upto, e, R.when, isUp]
theorem upto_call (k n : Nat) (m : M) (h : Ty m) (S : Store) : callM (evalFn Φ (k + 3)) true "is_upto" [m, .int ((n : Int) - 1)] S = .ok (.bl (isUp n m)) S :=
  pure_call (by simp [derefs, de_ty S h, de_ty S (ty_int _)]) (upto_eq k n m h) rfl
end
/-! ### worths, what is missing -/
def wsum (ws : List W) (l : List Int) : Int := (l.map fun i => (wz ws i).w).sum
def missL (c : Int) (ws : List W) (l : List Int) : List Int := (nums ws.length).filter fun i => !decide (i ∈ l) && !l.any (dc c ws i)
section
variable {Φ : Tx} [Has Φ "worth_sum" d_worth_sum]
theorem lc_worth {call : String → List M → Store → R M} {γ : Mi.Env} {S : Store} {c : Int} {ws : List W} {l : List Int} {i : Nat} {s : Src} {e : C} (hs : s.items = im l) (hl : l.length ≤ big) (hok : s.ok S) (hf : ∀ i ∈ l, Fit ws i)
    (he : ∀ z : Int, Fit ws z → ev call e ((wipeE γ [i]).set i (some (.int z))) S = .ok (.int (wz ws z).w) S) : lcRun call γ S (.nm i) .no e [i] s = .ok (l.map fun i => M.int (wz ws i).w) S := by
  refine lc_all l M.int (fun i => M.int (wz ws i).w) hs hl hok fun x hx => ?_
  unfold turnP
  rw [bt_nm, R.of_some, q_tno, R.bind_ok, if_pos rfl, he x (hf x hx), R.bind_ok]
  rfl
theorem sum_w (ws : List W) (l : List Int) (S : Store) : biop .sum [.lst (l.map fun i => M.int (wz ws i).w)] S = .ok (.int (wsum ws l)) S := by simp [biop, lstOf, ints_map, wsum]
theorem worth_eq (k : Nat) (c : Int) (ws : List W) (l : List Int) (hl : l.length ≤ 1000) (hf : ∀ i ∈ l, Fit ws i) : evalFn Φ (k + 1) "worth_sum" [bk c ws, om l] [] = .ok (.int (wsum ws l)) [] := by
  rw [has_eq d_worth_sum]
  have el : ∀ c2 S, lcRun (evalFn Φ k) [some (bk c ws), some (om l), c2] S (.nm 2) .no (.ix (.ix (.ix (.var 0) (.con (.int 1))) (.var 2)) (.con (.int 3))) [2] ⟨im l, om l, im l⟩ = .ok (l.map fun i => M.int (wz ws i).w) S := fun c2 S =>
    lc_worth (c := c) rfl (by unfold big; omega) rfl hf fun z hz => by simp [wipeE, ix1, ix_z hz, x3]
  simp [d_worth_sum, el, mkL, sum_w]
theorem worth_call (k : Nat) (c : Int) (ws : List W) (l : List Int) (hl : l.length ≤ 1000) (hf : ∀ i ∈ l, Fit ws i) (S : Store) : callM (evalFn Φ (k + 1)) true "worth_sum" [bk c ws, om l] S = .ok (.int (wsum ws l)) S :=
  pcall (by simp [M.plain.go]) (worth_eq k c ws l hl hf) rfl
variable [Has Φ "worth_of" d_worth_of]
theorem worthof_call (k : Nat) (c : Int) (ws : List W) (l : List Int) (hl : l.length ≤ 1000) (hf : ∀ i ∈ l, Fit ws i) (S : Store) : callM (evalFn Φ (k + 2)) true "worth_of" [bk c ws, om l] S = .ok (.int (wsum ws l)) S := by
  refine pcall (S' := []) (by simp [M.plain.go]) ?_ rfl
  rw [has_eq d_worth_of]
  simp [d_worth_of, worth_call k c ws l hl hf]
end
section
variable {Φ : Tx} [Has Φ "are_clashing" d_are_clashing] [Has Φ "do_clash" d_do_clash]
/-- any(do_clash(book, w, o) for o in l) -/
theorem any_dc {k : Nat} {γ : Mi.Env} {S : Store} {c : Int} {ws : List W} {l : List Int} {w : Int} {iw i : Nat} {s : Src} (hw : Fit ws w) (hl : ∀ o ∈ l, Fit ws o) (hs : s.items = im l) (hb : l.length ≤ big) (hok : s.ok S) (he : ∀ o : Int, evs (evalFn Φ (k + 2)) (.cons (.var 0) (.cons (.var iw) (.cons (.var i) .nil))) ((wipeE γ [i]).set i (some (.int o))) S = .ok [bk c ws, .int w, .int o] S) :
    anyRun (evalFn Φ (k + 2)) γ S false (.nm i) .no (.call true "do_clash" (.cons (.var 0) (.cons (.var iw) (.cons (.var i) .nil)))) [i] s = .ok (.bl (l.any (dc c ws w))) S := by
  have := any_pure (call := evalFn Φ (k + 2)) (γ := γ) (S := S) (neg := false) (tg := .nm i) (ifs := .no) (e := .call true "do_clash" (.cons (.var 0) (.cons (.var iw) (.cons (.var i) .nil)))) (own := [i]) (s := s) l M.int (dc c ws w) hs hb hok fun o ho => by
    unfold turnP
    rw [bt_nm, R.of_some, q_tno, R.bind_ok, if_pos rfl, q_call, he o, R.bind_ok, do_call k c ws hw (hl o ho)]
    rfl
  simpa using this
end
section
variable {Φ : Tx} [Has Φ "all_numbers" d_all_numbers]
theorem all_eq (k : Nat) (c : Int) (ws : List W) (hw : ws.length ≤ 1000) : evalFn Φ (k + 1) "all_numbers" [bk c ws] [] = .ok (.ref 0) [.lst (im (nums ws.length))] := by
  rw [has_eq d_all_numbers]
  have hr : RgOk' 0 ws.length := rg_len _ (by omega)
  simp [d_all_numbers, ix1, len_m, range12, hr, mkL, rng_nums]
theorem all_call (k : Nat) (c : Int) (ws : List W) (hw : ws.length ≤ 1000) (S : Store) : callM (evalFn Φ (k + 1)) true "all_numbers" [bk c ws] S = .ok (.lst (im (nums ws.length))) S :=
  pure_call (de_plains S _ (by simp [M.plain.go])) (all_eq k c ws hw) (fz_lst _)
variable [Has Φ "are_clashing" d_are_clashing] [Has Φ "do_clash" d_do_clash]
variable [Has Φ "missing_wishes" d_missing_wishes]
theorem miss_eq (k : Nat) (c : Int) (ws : List W) (l : List Int) (hw : ws.length ≤ 1000) (hl : l.length ≤ 1000) (hf : ∀ i ∈ l, Fit ws i) : evalFn Φ (k + 3) "missing_wishes" [bk c ws, om l] [] = .ok (om (missL c ws l)) [] := by
  rw [has_eq d_missing_wishes]
  have el : ∀ c2 c3 S, lcRun (evalFn Φ (k + 2)) [some (bk c ws), some (om l), c2, c3] S (.nm 2) (.so (.and (.v (.cmp .notin (.var 2) (.var 1))) (.one (.not (.v (.anyg false (.nm 3) (.val (.var 1)) .no (.call true "do_clash" (.cons (.var 0) (.cons (.var 2) (.cons (.var 3) .nil)))) [3])))))) (.var 2) [2] ⟨im (nums ws.length), .lst (im (nums ws.length)), im (nums ws.length)⟩ = .ok (im (missL c ws l)) S := fun c2 c3 S =>
    lc_filter _ rfl (by rw [len_nums]; unfold big; omega) rfl (fun x hx => by
      have fx : Fit ws x := mem_nums.mp hx
      by_cases h : x ∈ l
      · simp [wipeE, t_bl, h]
      · have ea : anyRun (evalFn Φ (k + 2)) [some (bk c ws), some (om l), some (.int x), c3] S false (.nm 3) .no (.call true "do_clash" (.cons (.var 0) (.cons (.var 2) (.cons (.var 3) .nil)))) [3] ⟨im l, om l, im l⟩ = .ok (.bl (l.any (dc c ws x))) S :=
          any_dc fx hf rfl (by unfold big; omega) rfl fun o => by simp [wipeE]
        simp [wipeE, t_bl, h, ea]) (by simp [wipeE])
  simp [d_missing_wishes, all_call (k + 1) c ws hw, el, mkL]
  rfl
theorem miss_call (k : Nat) (c : Int) (ws : List W) (l : List Int) (hw : ws.length ≤ 1000) (hl : l.length ≤ 1000) (hf : ∀ i ∈ l, Fit ws i) (S : Store) : callM (evalFn Φ (k + 3)) true "missing_wishes" [bk c ws, om l] S = .ok (om (missL c ws l)) S :=
  pcall (by simp [M.plain.go]) (miss_eq k c ws l hw hl hf) (by simp)
end
end Pg

namespace Pg
open PySem PySem.Spec L2 Mi
/-! ### is it an end -/
/-- the first condition at the i-th element -/
def vd1 (n : Nat) (l : List M) (i : Nat) : Option String := match l[i]? with
  | some (.int w) => if 0 ≤ w ∧ w < n then (match i, l[i - 1]? with
    | _ + 1, some (.int p) => if w ≤ p then some "rise" else none
    | _, _ => none) else some "wish"
  | _ => some "wish"
def vd2 (c : Int) (ws : List W) (l : List Int) (i : Nat) : Option String := if l.any (dc c ws (l.getD i 0)) = true then some "clash" else none
def intsL : List M → List Int
  | [] => []
  | .int i :: r => i :: intsL r
  | _ :: r => intsL r
@[simp] theorem intsL_im (l : List Int) : intsL (im l) = l := by
  induction l with
  | nil => rfl
  | cons a l ih => show a :: intsL (im l) = _; rw [ih]
def partR (c : Int) (ws : List W) : M → Option (Int × String)
  | .tup l => match fst1 (vd1 ws.length l) l.length with
    | some (i, s) => some (i, s)
    | none => match fst1 (vd2 c ws (intsL l)) l.length with
      | some (i, s) => some (i, s)
      | none => none
  | _ => some (-1, "shape")
def itemsL : M → List Int
  | .tup l => intsL l
  | _ => []
def whyR (c : Int) (ws : List W) (m : M) : Option (Int × String) := match partR c ws m with
  | some p => some p
  | none => match missL c ws (itemsL m) with
    | [] => none
    | a :: _ => some (a, "missing")
theorem vd1_none {n i : Nat} {l : List M} (h : vd1 n l i = none) : ∃ w : Int, l[i]? = some (.int w) ∧ 0 ≤ w ∧ w < n := by
  unfold vd1 at h
  split at h
  · rename_i w e
    split at h
    · rename_i hc; exact ⟨w, e, hc⟩
    · cases h
  · cases h
theorem all_ints : ∀ {l : List M} {n : Nat}, (∀ i, i < l.length → ∃ w : Int, l[i]? = some (.int w) ∧ 0 ≤ w ∧ w < n) → ∃ ord : List Int, l = im ord ∧ ∀ i ∈ ord, 0 ≤ i ∧ i < n
  | [], n, h => ⟨[], rfl, by simp⟩
  | m :: l, n, h => by
    obtain ⟨w, e, hw⟩ := h 0 (by simp)
    obtain ⟨ord, rfl, ho⟩ := all_ints (l := l) (n := n) fun i hi => by
      obtain ⟨w, e, hw⟩ := h (i + 1) (by simpa using hi)
      exact ⟨w, by simpa using e, hw⟩
    simp at e
    subst e
    exact ⟨w :: ord, rfl, fun i hi => by
      rcases List.mem_cons.mp hi with rfl | hi
      · exact hw
      · exact ho i hi⟩
theorem part_ints {c : Int} {ws : List W} {l : List M} (h : fst1 (vd1 ws.length l) l.length = none) : ∃ ord : List Int, l = im ord ∧ ∀ i ∈ ord, Fit ws i :=
  all_ints fun i hi => vd1_none (fst1_none h i hi)
def badE (i : Int) (s : String) : Ex := ⟨"BadEnd", [("at", .int i), ("word", .str (Str.ofString s))]⟩
theorem enum_at {l : List M} {i : Nat} {x : M} (h : ((List.range l.length).map fun i => M.tup [.int (i : Nat), l.getD i .non])[i]? = some x) : ∃ m, l[i]? = some m ∧ x = .tup [.int (i : Nat), m] := by
  rw [List.getElem?_map] at h
  obtain ⟨j, hj, rfl⟩ := Option.map_eq_some_iff.mp h
  obtain ⟨hl, hj⟩ := List.getElem?_eq_some_iff.mp hj
  have e : j = i := by simpa using hj.symm
  subst e
  have hl : j < l.length := by simpa using hl
  exact ⟨l[j], by simp [hl], by simp [hl]⟩
theorem bt_23 (m n : M) (γ : Mi.Env) : bindT (.tu [2, 3]) (.tup [m, n]) γ = some (bindT.go [2, 3] [m, n] γ) := rfl
theorem at_get {l : List M} {i : Nat} {m : M} (h : l[i]? = some m) : atI l (i : Int) = some m := by
  have hl := (List.getElem?_eq_some_iff.mp h).1
  unfold atI ixN
  rw [if_pos (by omega), if_pos (by omega)]
  simpa using h
section
variable {Φ : Tx} [Has Φ "is_integer" d_is_integer] [Has Φ "is_number" d_is_number] [Has Φ "is_upto" d_is_upto] [Has Φ "are_clashing" d_are_clashing] [Has Φ "do_clash" d_do_clash] [Has Φ "check_part" d_check_part]
abbrev pB1 : Sms := match d_check_part.body with | .cons _ (.cons (.for_ _ _ b) _) => b | _ => .nil
abbrev pB2 : Sms := match d_check_part.body with | .cons _ (.cons _ (.cons (.for_ _ _ b) _)) => b | _ => .nil
theorem b1_ok (k : Nat) (c : Int) (ws : List W) (l : List M) (hl : ∀ m ∈ l, Ty m) {i : Nat} {m : M} (hm : l[i]? = some m) (hj : ∀ j, j < i → vd1 ws.length l j = none) : exs (evalFn Φ (k + 3)) pB1 [some (bk c ws), some (.tup l), some (.int (i : Int)), some m, none] [] = match vd1 ws.length l i with
    | some s => .exc (badE i s) []
    | none => .ok (.nx [some (bk c ws), some (.tup l), some (.int (i : Int)), some m, none]) [] := by
  have hT := hl m (List.mem_of_getElem? hm)
  have hu := upto_call (Φ := Φ) k ws.length m hT
  have esub : ∀ (i j : Int) S, binop false .sub (.int i) (.int j) S = .ok (.int (i - j)) S := fun _ _ _ => rfl
  cases hb : isUp ws.length m with
  | false =>
    rw [hb] at hu
    have ev : vd1 ws.length l i = some "wish" := by
      unfold vd1
      rw [hm]
      cases m with
      | int w =>
        simp only [isUp, decide_eq_false_iff_not] at hb
        dsimp only
        rw [if_neg hb]
      | _ => rfl
    rw [ev]
    simp [pB1, d_check_part, hu, ix1, len_m, esub, t_bl, R.when, badE]
  | true =>
    rw [hb] at hu
    obtain ⟨w, rfl, hw⟩ : ∃ w, m = .int w ∧ (0 ≤ w ∧ w < ws.length) := by
      cases m with
      | int w => exact ⟨w, rfl, by simpa [isUp] using hb⟩
      | _ => simp [isUp] at hb
    cases i with
    | zero =>
      have ev : vd1 ws.length l 0 = none := by
        unfold vd1
        rw [hm]
        dsimp only
        rw [if_pos hw]
      rw [ev]
      simp [pB1, d_check_part, hu, ix1, len_m, esub, t_bl, c_gt]
    | succ i =>
      obtain ⟨p, ep, _⟩ := vd1_none (hj i (by omega))
      have ea : ∀ S, ixop (.tup l) (.int (i : Int)) S = .ok (.int p) S := fun S => by rw [ixt, at_get ep]; rfl
      have hz : ((i + 1 : Nat) : Int) - 1 = (i : Int) := by omega
      have hz' : (i : Int) + 1 - 1 = (i : Int) := by omega
      have ev : vd1 ws.length l (i + 1) = if w ≤ p then some "rise" else none := by
        unfold vd1
        rw [hm]
        dsimp only
        rw [if_pos hw]
        simp [ep]
      have hp : (0 : Int) < (i : Int) + 1 := by omega
      rw [ev]
      by_cases hwp : w ≤ p
      · rw [if_pos hwp]
        simp [pB1, d_check_part, hu, ix1, len_m, esub, t_bl, c_gt, c_le, hz', ea, hwp, hp, R.when, badE]
      · rw [if_neg hwp]
        simp [pB1, d_check_part, hu, ix1, len_m, esub, t_bl, c_gt, c_le, hz', ea, hwp, hp]
theorem b2_ok (k : Nat) (c : Int) (ws : List W) (l : List Int) (hf : ∀ i ∈ l, Fit ws i) (hl : l.length ≤ 1000) {i : Nat} (hi : i < l.length) (c4 : Option M) : exs (evalFn Φ (k + 2)) pB2 [some (bk c ws), some (om l), some (.int (i : Int)), some (.int (l.getD i 0)), c4] [] = match vd2 c ws l i with
    | some s => .exc (badE i s) []
    | none => .ok (.nx [some (bk c ws), some (om l), some (.int (i : Int)), some (.int (l.getD i 0)), c4]) [] := by
  have fw : Fit ws (l.getD i 0) := hf _ (by rw [List.getD_eq_getElem?_getD, List.getElem?_eq_getElem hi]; exact List.getElem_mem hi)
  have ea : anyRun (evalFn Φ (k + 2)) [some (bk c ws), some (om l), some (.int (i : Int)), some (.int (l.getD i 0)), c4] [] false (.nm 4) .no (.call true "do_clash" (.cons (.var 0) (.cons (.var 3) (.cons (.var 4) .nil)))) [4] ⟨im l, om l, im l⟩ = .ok (.bl (l.any (dc c ws (l.getD i 0)))) [] :=
    any_dc fw hf rfl (by unfold big; omega) rfl fun o => by simp [wipeE]
  generalize hw : l.getD i 0 = w at ea ⊢
  unfold vd2
  rw [hw]
  by_cases h : l.any (dc c ws w) = true
  · rw [if_pos h]
    rw [h] at ea
    simp [pB2, d_check_part, ea, t_bl, R.when, badE]
  · rw [if_neg h]
    rw [Bool.eq_false_iff.mpr h] at ea
    simp [pB2, d_check_part, ea, t_bl]
set_option maxHeartbeats 0 in
theorem part_eq (k : Nat) (c : Int) (ws : List W) (m : M) (h : Th m) : evalFn Φ (k + 4) "check_part" [bk c ws, m] [] = match partR c ws m with
    | some (i, s) => .exc (badE i s) []
    | none => .ok .non [] := by
  rw [has_eq d_check_part]
  obtain ⟨⟨h1, h2⟩, h3⟩ := h
  cases m with
  | tup l =>
    obtain ⟨h4, h5⟩ := h3 l rfl
    have hlen : ((List.range l.length).map fun i => M.tup [.int (i : Nat), l.getD i .non]).length = l.length := by simp
    obtain ⟨s1, s2⟩ := scan (s := ⟨(List.range l.length).map fun i : Nat => M.tup [.int (i : Int), l.getD i .non], .tup l, l⟩) (f := fun x γ S => .of (bindT (.tu [2, 3]) x γ) fun γ1 => exs (evalFn Φ (k + 3)) pB1 γ1 S) (S := []) rfl
      ((List.range l.length).map fun i : Nat => M.tup [.int (i : Int), l.getD i .non]) (fun _ γ => ∃ c2 c3, γ = [some (bk c ws), some (.tup l), c2, c3, none]) (fun i => (vd1 ws.length l i).map fun s => .exc (badE i s) [])
      (by
        rintro i x γ r hx ⟨c2, c3, rfl⟩ hj hs
        obtain ⟨m, hm, rfl⟩ := enum_at hx
        obtain ⟨s, es, rfl⟩ := Option.map_eq_some_iff.mp hs
        have hb := b1_ok (Φ := Φ) k c ws l h4 hm fun j hj' => by simpa using hj j hj'
        rw [es] at hb
        exact ⟨hb, .inr ⟨_, _, rfl⟩⟩)
      (by
        rintro i x γ hx ⟨c2, c3, rfl⟩ hj
        obtain ⟨m, hm, rfl⟩ := enum_at hx
        have hb := b1_ok (Φ := Φ) k c ws l h4 hm fun j hj' => by simpa using hj j (by omega)
        have es : vd1 ws.length l i = none := by simpa using hj i (by omega)
        rw [es] at hb
        exact ⟨_, hb, _, _, rfl⟩)
      [some (bk c ws), some (.tup l), none, none, none] ⟨none, none, rfl⟩
    rw [hlen, fst1_map (fun i s => (R.exc (badE i s) [] : R F))] at s1 s2
    cases hc : fst1 (vd1 ws.length l) l.length with
    | some p =>
      obtain ⟨i, s⟩ := p
      have rn : forRun (evalFn Φ (k + 3)) [some (bk c ws), some (.tup l), none, none, none] [] (.tu [2, 3]) pB1 ⟨(List.range l.length).map fun i : Nat => M.tup [.int (i : Int), l.getD i .non], .tup l, l⟩ = .exc (badE i s) [] := s1 i _ (by rw [hc]; rfl)
      simp only [d_check_part, pB1, List.getD_eq_getElem?_getD] at rn
      simp [d_check_part, isiop, tyOf, isTy, t_bl, rn, partR, hc]
    | none =>
      obtain ⟨γ', ⟨c2, c3, rfl⟩, e⟩ := s2 (by rw [hc]; rfl)
      obtain ⟨ord, rfl, hf⟩ := part_ints (c := c) hc
      rw [len_im] at h5
      have rn : forRun (evalFn Φ (k + 3)) [some (bk c ws), some (om ord), none, none, none] [] (.tu [2, 3]) pB1 ⟨(List.range (im ord).length).map fun i : Nat => M.tup [.int (i : Int), (im ord).getD i .non], om ord, im ord⟩ = .ok (.nx [some (bk c ws), some (om ord), c2, c3, none]) [] := e
      obtain ⟨t1, t2⟩ := scan (s := ⟨(List.range (im ord).length).map fun i : Nat => M.tup [.int (i : Int), (im ord).getD i .non], om ord, im ord⟩) (f := fun x γ S => .of (bindT (.tu [2, 3]) x γ) fun γ1 => exs (evalFn Φ (k + 3)) pB2 γ1 S) (S := []) rfl
        ((List.range (im ord).length).map fun i : Nat => M.tup [.int (i : Int), (im ord).getD i .non]) (fun _ γ => ∃ c2 c3, γ = [some (bk c ws), some (om ord), c2, c3, none]) (fun i => (vd2 c ws ord i).map fun s => .exc (badE i s) [])
        (by
          rintro i x γ r hx ⟨c2, c3, rfl⟩ hj hs
          obtain ⟨m, hm, rfl⟩ := enum_at hx
          obtain ⟨s, es, rfl⟩ := Option.map_eq_some_iff.mp hs
          have hi : i < ord.length := by simpa using (List.getElem?_eq_some_iff.mp hm).1
          have em : m = .int (ord.getD i 0) := by
            unfold im at hm
            rw [List.getElem?_map, List.getElem?_eq_getElem hi] at hm
            rw [List.getD_eq_getElem?_getD, List.getElem?_eq_getElem hi]
            exact (Option.some.inj hm).symm
          subst em
          have hb := b2_ok (Φ := Φ) (k + 1) c ws ord hf (by omega) hi none
          rw [es] at hb
          exact ⟨hb, .inr ⟨_, _, rfl⟩⟩)
        (by
          rintro i x γ hx ⟨c2, c3, rfl⟩ hj
          obtain ⟨m, hm, rfl⟩ := enum_at hx
          have hi : i < ord.length := by simpa using (List.getElem?_eq_some_iff.mp hm).1
          have em : m = .int (ord.getD i 0) := by
            unfold im at hm
            rw [List.getElem?_map, List.getElem?_eq_getElem hi] at hm
            rw [List.getD_eq_getElem?_getD, List.getElem?_eq_getElem hi]
            exact (Option.some.inj hm).symm
          subst em
          have hb := b2_ok (Φ := Φ) (k + 1) c ws ord hf (by omega) hi none
          have es : vd2 c ws ord i = none := by simpa using hj i (by omega)
          rw [es] at hb
          exact ⟨_, hb, _, _, rfl⟩)
        [some (bk c ws), some (om ord), c2, c3, none] ⟨c2, c3, rfl⟩
      rw [hlen, fst1_map (fun i s => (R.exc (badE i s) [] : R F))] at t1 t2
      cases hc2 : fst1 (vd2 c ws ord) (im ord).length with
      | some p =>
        obtain ⟨i, s⟩ := p
        have rn2 : forRun (evalFn Φ (k + 3)) [some (bk c ws), some (om ord), c2, c3, none] [] (.tu [2, 3]) pB2 ⟨(List.range (im ord).length).map fun i : Nat => M.tup [.int (i : Int), (im ord).getD i .non], om ord, im ord⟩ = .exc (badE i s) [] := t1 i _ (by rw [hc2]; rfl)
        simp only [d_check_part, pB1, pB2, om, List.getD_eq_getElem?_getD] at rn rn2
        simp [d_check_part, isiop, tyOf, isTy, t_bl, rn, rn2, partR, hc, hc2, -len_im]
      | none =>
        obtain ⟨γ', ⟨d2, d3, rfl⟩, e2⟩ := t2 (by rw [hc2]; rfl)
        have rn2 : forRun (evalFn Φ (k + 3)) [some (bk c ws), some (om ord), c2, c3, none] [] (.tu [2, 3]) pB2 ⟨(List.range (im ord).length).map fun i : Nat => M.tup [.int (i : Int), (im ord).getD i .non], om ord, im ord⟩ = .ok (.nx [some (bk c ws), some (om ord), d2, d3, none]) [] := e2
        simp only [d_check_part, pB1, pB2, om, List.getD_eq_getElem?_getD] at rn rn2
        simp [d_check_part, isiop, tyOf, isTy, t_bl, rn, rn2, partR, hc, hc2, -len_im]
  | ref n => simp [M.noref] at h1
  | scr l => exact absurd rfl (h2 l)
  | _ => simp [d_check_part, isiop, tyOf, isTy, t_bl, R.when, partR, badE]
theorem part_call (k : Nat) (c : Int) (ws : List W) (m : M) (h : Th m) (S : Store) : callM (evalFn Φ (k + 4)) true "check_part" [bk c ws, m] S = match partR c ws m with
    | some (i, s) => .exc (badE i s) S
    | none => .ok .non S := by
  have e := part_eq (Φ := Φ) k c ws m h
  cases hr : partR c ws m with
  | none => rw [hr] at e; exact pure_call (de_th h c ws S) e rfl
  | some p => rw [hr] at e; exact pure_exc (de_th h c ws S) e rfl
theorem part_tup {c : Int} {ws : List W} {m : M} (h : Th m) (hp : partR c ws m = none) : ∃ ord : List Int, m = om ord ∧ (∀ i ∈ ord, Fit ws i) ∧ ord.length ≤ 1000 := by
  cases m with
  | tup l =>
    simp only [partR] at hp
    cases hc : fst1 (vd1 ws.length l) l.length with
    | some p => rw [hc] at hp; cases hp
    | none =>
      obtain ⟨ord, rfl, hf⟩ := part_ints (c := c) hc
      exact ⟨ord, rfl, hf, by simpa using (h.2 _ rfl).2⟩
  | _ => simp [partR] at hp
@[simp] theorem items_om (l : List Int) : itemsL (om l) = l := intsL_im l
variable [Has Φ "worth_sum" d_worth_sum] [Has Φ "all_numbers" d_all_numbers] [Has Φ "missing_wishes" d_missing_wishes] [Has Φ "check_end" d_check_end]
theorem end_call (k : Nat) (c : Int) (ws : List W) (m : M) (h : Th m) (hw : ws.length ≤ 1000) (S : Store) : callM (evalFn Φ (k + 5)) true "check_end" [bk c ws, m] S = match whyR c ws m with
    | some (i, s) => .exc (badE i s) S
    | none => .ok (.int (wsum ws (itemsL m))) S := by
  have e := part_call (Φ := Φ) k c ws m h
  cases hr : partR c ws m with
  | some p =>
    rw [hr] at e
    have hy : whyR c ws m = some p := by unfold whyR; rw [hr]
    rw [hy]
    refine pure_exc (S' := []) (de_th h c ws S) ?_ rfl
    rw [has_eq d_check_end]
    simp [d_check_end, e]
  | none =>
    rw [hr] at e
    obtain ⟨ord, rfl, hf, ho⟩ := part_tup h hr
    have hm := miss_call (Φ := Φ) (k + 1) c ws ord hw ho hf
    have hwc := worth_call (Φ := Φ) (k + 3) c ws ord ho hf
    have et : ∀ (l : List Int) S, truth S (om l) = some (!l.isEmpty) := fun l S => by
      show some (!(im l).isEmpty) = _
      cases l <;> rfl
    cases hml : missL c ws ord with
    | nil =>
      have hy : whyR c ws (om ord) = none := by unfold whyR; rw [hr, items_om, hml]
      rw [hy, items_om]
      rw [hml] at hm
      refine pure_call (S' := []) (m := .int (wsum ws ord)) (de_th h c ws S) ?_ rfl
      rw [has_eq d_check_end]
      simp [d_check_end, e, hm, hwc, et]
    | cons a r =>
      have hy : whyR c ws (om ord) = some (a, "missing") := by unfold whyR; rw [hr, items_om, hml]
      rw [hy]
      rw [hml] at hm
      refine pure_exc (S' := []) (de_th h c ws S) ?_ rfl
      have e0 : ∀ S, ixop (om (a :: r)) (.int 0) S = .ok (.int a) S := fun S => by show R.of (atI (im (a :: r)) 0) _ = _; rw [im_cons, at_zero]; rfl
      rw [has_eq d_check_end]
      simp [d_check_end, e, hm, et, e0, R.when, badE]
theorem isend_call (xn : List String) (hx : "BadEnd" ∈ xn) [Has Φ "is_end" (d_is_end xn)] (k : Nat) (c : Int) (ws : List W) (m : M) (h : Th m) (hw : ws.length ≤ 1000) (S : Store) : callM (evalFn Φ (k + 6)) true "is_end" [bk c ws, m] S = .ok (.bl (whyR c ws m).isNone) S := by
  have e := end_call (Φ := Φ) k c ws m h hw
  refine pure_call (S' := []) (m := .bl (whyR c ws m).isNone) (de_th h c ws S) ?_ rfl
  rw [has_eq (d_is_end xn)]
  cases hr : whyR c ws m with
  | none => rw [hr] at e; simp [d_is_end, e]
  | some p => rw [hr] at e; simp [d_is_end, e, hx, handle, Cz.ev, xsub, Sr.ev, Sas.ev, Sa.ev, Kon.m, badE]
theorem ispart_call (xn : List String) (hx : "BadEnd" ∈ xn) [Has Φ "is_part" (d_is_part xn)] (k : Nat) (c : Int) (ws : List W) (m : M) (h : Th m) (S : Store) : callM (evalFn Φ (k + 5)) true "is_part" [bk c ws, m] S = .ok (.bl (partR c ws m).isNone) S := by
  have e := part_call (Φ := Φ) k c ws m h
  refine pure_call (S' := []) (m := .bl (partR c ws m).isNone) (de_th h c ws S) ?_ rfl
  rw [has_eq (d_is_part xn)]
  cases hr : partR c ws m with
  | none => rw [hr] at e; simp [d_is_part, e]
  | some p => rw [hr] at e; simp [d_is_part, e, hx, handle, Cz.ev, xsub, Sr.ev, Sas.ev, Sa.ev, Kon.m, badE]
end
end Pg

namespace Pg
open PySem PySem.Spec L2 Mi
/-! ### the program: a book of any kind (texts printed by gen.py) -/
def d_is_row : Fn := ⟨["thing", "many"], [], 2, (.cons (.ret (.and (.isi (.var 0) ["tuple"]) (.one (.cmp .eq (.bi .len (.cons (.var 0) .nil)) (.var 1))))) .nil)⟩
def d_check_wish : Fn := ⟨["at", "wish"], [], 7, (.cons (.ife (.or (.not (.v (.call true "is_row" (.cons (.var 1) (.cons (.con (.int 4)) .nil))))) (.one (.not (.v (.anyg true (.nm 6) (.val (.var 1)) .no (.call true "is_number" (.cons (.var 6) .nil)) [6]))))) (.cons (.raise "BadBook" ["at", "word"] (.cons (.var 0) (.cons (.con (.str "wish")) .nil))) .nil) .nil) (.cons (.unp [2, 3, 4, 5] (.var 1)) (.cons (.ife (.v (.cmp .gt (.var 2) (.cst "MOST_ROOM" 9))) (.cons (.raise "BadBook" ["at", "word"] (.cons (.var 0) (.cons (.con (.str "room")) .nil))) .nil) .nil) (.cons (.ife (.or (.v (.cmp .gt (.var 4) (.cst "MOST_TIME" 9999))) (.one (.v (.cmp .ge (.var 3) (.var 4))))) (.cons (.raise "BadBook" ["at", "word"] (.cons (.var 0) (.cons (.con (.str "time")) .nil))) .nil) .nil) (.cons (.ife (.v (.cmp .gt (.var 5) (.cst "MOST_WORTH" 999))) (.cons (.raise "BadBook" ["at", "word"] (.cons (.var 0) (.cons (.con (.str "worth")) .nil))) .nil) .nil) .nil)))))⟩
def d_check_book : Fn := ⟨["thing"], [], 7, (.cons (.ife (.not (.v (.call true "is_row" (.cons (.var 0) (.cons (.con (.int 2)) .nil))))) (.cons (.raise "BadBook" ["at", "word"] (.cons (.neg (.con (.int 1))) (.cons (.con (.str "shape")) .nil))) .nil) .nil) (.cons (.unp [1, 2] (.var 0)) (.cons (.ife (.not (.v (.call true "is_upto" (.cons (.var 1) (.cons (.cst "MOST_CHANGE" 99) .nil))))) (.cons (.raise "BadBook" ["at", "word"] (.cons (.neg (.con (.int 1))) (.cons (.con (.str "change")) .nil))) .nil) .nil) (.cons (.ife (.or (.not (.v (.isi (.var 2) ["tuple"]))) (.one (.not (.v (.chain .le .le (.con (.int 1)) (.bi .len (.cons (.var 2) .nil)) (.cst "MOST_WISHES" 60)))))) (.cons (.raise "BadBook" ["at", "word"] (.cons (.neg (.con (.int 1))) (.cons (.con (.str "wishes")) .nil))) .nil) .nil) (.cons (.for_ (.tu [3, 4]) (.enum (.var 2)) (.cons (.exp (.call true "check_wish" (.cons (.var 3) (.cons (.var 4) .nil)))) .nil)) (.cons (.ret (.bi .len (.cons (.lc2 false (.tu [3, 6]) (.enum (.var 2)) (.nm 5) (.val (.sl false (.var 2) .no (.so (.var 3)))) (.so (.v (.call true "are_clashing" (.cons (.var 1) (.cons (.var 6) (.cons (.var 5) .nil)))))) (.con (.int 1)) [3, 6, 5] [5]) .nil))) .nil))))))⟩
def d_is_book (xnames : List String) : Fn := ⟨["thing"], [(0, [0])], 1, (.cons (.try_ xnames (.cons (.exp (.call true "check_book" (.cons (.var 0) .nil))) .nil) [⟨"BadBook", none, (.one (.con (.bl false))), none⟩]) (.cons (.ret (.con (.bl true))) .nil))⟩
/-! ### a value of bools, ints, texts, None, tuples, lists of these -/
mutual
def Dy : M → Bool
  | .tup l => Dys l
  | .lst l => Dys l
  | .scr _ => false
  | .ref _ => false
  | _ => true
def Dys : List M → Bool
  | [] => true
  | m :: r => Dy m && Dys r
end
theorem dys_mem : ∀ {l : List M} {m : M}, Dys l = true → m ∈ l → Dy m = true
  | a :: l, m, h, hm => by
    simp only [Dys, Bool.and_eq_true] at h
    rcases List.mem_cons.mp hm with rfl | hm
    · exact h.1
    · exact dys_mem h.2 hm
theorem dys_of : ∀ {l : List M}, (∀ m ∈ l, Dy m = true) → Dys l = true
  | [], _ => rfl
  | a :: l, h => by
    simp only [Dys, Bool.and_eq_true]
    exact ⟨h a List.mem_cons_self, dys_of fun m hm => h m (List.mem_cons_of_mem _ hm)⟩
mutual
theorem dy_noref : ∀ m : M, Dy m = true → m.noref = true
  | .non, _ => rfl
  | .bl _, _ => rfl
  | .int _, _ => rfl
  | .str _, _ => rfl
  | .tup l, h => by simp only [M.noref]; exact dys_noref l (by simpa [Dy] using h)
  | .lst l, h => by simp only [M.noref]; exact dys_noref l (by simpa [Dy] using h)
  | .scr l, h => by simp [Dy] at h
  | .ref n, h => by simp [Dy] at h
theorem dys_noref : ∀ l : List M, Dys l = true → M.noref.go l = true
  | [], _ => rfl
  | m :: l, h => by
    simp only [Dys, Bool.and_eq_true] at h
    simp only [M.noref.go, Bool.and_eq_true]
    exact ⟨dy_noref m h.1, dys_noref l h.2⟩
end
theorem dy_ty {m : M} (h : Dy m = true) : Ty m := ⟨dy_noref m h, fun l e => by subst e; simp [Dy] at h⟩
@[simp] theorem dy_w (x : W) : Dy x.m = true := rfl
theorem dys_ws (ws : List W) : Dys (ws.map W.m) = true := dys_of fun m hm => by
  obtain ⟨x, _, rfl⟩ := List.mem_map.mp hm
  rfl
/-! ### a row -/
def isRow (n : Nat) : M → Bool
  | .tup l => decide (l.length = n)
  | _ => false
def isNum : M → Bool
  | .int i => decide (0 ≤ i)
  | _ => false
section
variable {Φ : Tx} [Has Φ "is_row" d_is_row]
theorem row_eq' (k n : Nat) (m : M) (h : Ty m) : evalFn Φ (k + 1) "is_row" [m, .int (n : Int)] [] = .ok (.bl (isRow n m)) [] := by
  rw [has_eq d_is_row]
  obtain ⟨h1, h2⟩ := h
  cases m with
  | tup l =>
    have e : ((l.length : Int) == (n : Int)) = decide (l.length = n) := by
      by_cases hl : l.length = n
      · simp [hl]
      · have : ¬ ((l.length : Int) = (n : Int)) := by omega
        simp [hl, this]
    simp [d_is_row, isiop, tyOf, isTy, isRow, R.when, c_eq, bi_lent, e]
  | ref n => simp [M.noref] at h1
  | scr l => exact absurd rfl (h2 l)
  | _ => simp [d_is_row, isiop, tyOf, isTy, isRow, R.when]
theorem row_call' (k n : Nat) (m : M) (h : Ty m) (S : Store) : callM (evalFn Φ (k + 1)) true "is_row" [m, .int (n : Int)] S = .ok (.bl (isRow n m)) S :=
  pure_call (by simp [derefs, de_ty S h, de_ty S (ty_int (n : Int))]) (row_eq' k n m h) rfl
end
/-! ### a wish -/
def wdX (x : W) : Option String := if x.r > 9 then some "room" else if x.e > 9999 ∨ x.b ≥ x.e then some "time" else if x.w > 999 then some "worth" else none
def wdW (m : M) : Option String := match m with
  | .tup [.int a, .int b, .int c, .int d] => if 0 ≤ a ∧ 0 ≤ b ∧ 0 ≤ c ∧ 0 ≤ d then wdX ⟨a, b, c, d⟩ else some "wish"
  | _ => some "wish"
/-- either four numbers or not -/
theorem wd_cases (m : M) : (∃ x : W, m = x.m ∧ (0 ≤ x.r ∧ 0 ≤ x.b ∧ 0 ≤ x.e ∧ 0 ≤ x.w) ∧ wdW m = wdX x) ∨ (wdW m = some "wish" ∧ (isRow 4 m = false ∨ ∃ l, m = .tup l ∧ l.length = 4 ∧ l.all isNum = false)) := by
  cases m with
  | tup l =>
    by_cases hl : l.length = 4
    · obtain ⟨a, b, c, d, rfl⟩ : ∃ a b c d, l = [a, b, c, d] := by
        match l, hl with
        | [a, b, c, d], _ => exact ⟨a, b, c, d, rfl⟩
      by_cases hn : [a, b, c, d].all isNum = true
      · have hn' := hn
        simp only [List.all_cons, List.all_nil, Bool.and_true, Bool.and_eq_true] at hn
        obtain ⟨h1, h2, h3, h4⟩ := hn
        have gi : ∀ m, isNum m = true → ∃ i : Int, m = .int i ∧ 0 ≤ i := fun m h => by
          cases m with
          | int i => exact ⟨i, rfl, by simpa [isNum] using h⟩
          | _ => simp [isNum] at h
        obtain ⟨a, rfl, ha⟩ := gi a h1
        obtain ⟨b, rfl, hb⟩ := gi b h2
        obtain ⟨c, rfl, hc⟩ := gi c h3
        obtain ⟨d, rfl, hd⟩ := gi d h4
        exact .inl ⟨⟨a, b, c, d⟩, rfl, ⟨ha, hb, hc, hd⟩, by simp only [wdW]; rw [if_pos ⟨ha, hb, hc, hd⟩]⟩
      · refine .inr ⟨?_, .inr ⟨_, rfl, rfl, by simpa using hn⟩⟩
        unfold wdW
        split
        · rename_i e
          cases e
          rw [if_neg]
          intro q
          exact hn (by simp [isNum, q])
        · rfl
    · refine .inr ⟨?_, .inl (by simp [isRow, hl])⟩
      unfold wdW
      split
      · rename_i e
        cases e
        exact absurd rfl hl
      · rfl
  | _ => exact .inr ⟨rfl, .inl rfl⟩
def bad (i : Int) (s : String) : Ex := ⟨"BadBook", [("at", .int i), ("word", .str (Str.ofString s))]⟩
section
variable {Φ : Tx} [Has Φ "is_integer" d_is_integer] [Has Φ "is_number" d_is_number] [Has Φ "is_row" d_is_row] [Has Φ "check_wish" d_check_wish]
theorem all_num {k : Nat} {γ : Mi.Env} {S : Store} {l : List M} {i : Nat} {s : Src} (hl : ∀ m ∈ l, Ty m) (hs : s.items = l) (hb : l.length ≤ big) (hok : s.ok S) (hv : ∀ m S, varM ((wipeE γ [i]).set i (some m)) i S = .ok m S) :
    anyRun (evalFn Φ (k + 2)) γ S true (.nm i) .no (.call true "is_number" (.cons (.var i) .nil)) [i] s = .ok (.bl (l.all isNum)) S := by
  have := any_pure (call := evalFn Φ (k + 2)) (γ := γ) (S := S) (neg := true) (tg := .nm i) (ifs := .no) (e := .call true "is_number" (.cons (.var i) .nil)) (own := [i]) (s := s) l id isNum (by simpa using hs) hb hok fun m hm => by
    unfold turnP
    rw [id_eq, bt_nm, R.of_some, q_tno, R.bind_ok, if_pos rfl, q_call, q_cons, q_var, hv, R.bind_ok, q_nil, R.bind_ok, R.bind_ok, number_call k m (hl m hm)]
    cases m <;> rfl
  simpa using this
theorem wish_eq (k : Nat) (i : Int) (m : M) (h : Dy m = true) : evalFn Φ (k + 3) "check_wish" [.int i, m] [] = match wdW m with
    | some s => .exc (bad i s) []
    | none => .ok .non [] := by
  rw [has_eq d_check_wish]
  have hr := row_call' (Φ := Φ) (k + 1) 4 m (dy_ty h)
  rcases wd_cases m with ⟨x, rfl, hx, e⟩ | ⟨e, hh | ⟨l, rfl, hl, hn⟩⟩
  · rw [e]
    have ea : ∀ c2 c3 c4 c5 c6 S, anyRun (evalFn Φ (k + 2)) [some (.int i), some x.m, c2, c3, c4, c5, c6] S true (.nm 6) .no (.call true "is_number" (.cons (.var 6) .nil)) [6] ⟨[.int x.r, .int x.b, .int x.e, .int x.w], x.m, [.int x.r, .int x.b, .int x.e, .int x.w]⟩ = .ok (.bl true) S := fun c2 c3 c4 c5 c6 S => by
      refine (all_num (l := [.int x.r, .int x.b, .int x.e, .int x.w]) (fun m hm => ?_) ?_ ?_ ?_ ?_).trans ?_
      · simp only [List.mem_cons, List.not_mem_nil, or_false] at hm
        rcases hm with rfl | rfl | rfl | rfl <;> exact ty_int _
      · rfl
      · unfold big; simp
      · rfl
      · intro m S; simp [wipeE]
      · simp [isNum, hx]
    have hs : ∀ S, seqOf S x.m = some [.int x.r, .int x.b, .int x.e, .int x.w] := fun _ => rfl
    have hbt : ∀ γ, bindT (.tu [2, 3, 4, 5]) x.m γ = some (bindT.go [2, 3, 4, 5] [.int x.r, .int x.b, .int x.e, .int x.w] γ) := fun _ => rfl
    have hr' : isRow 4 x.m = true := rfl
    rw [hr'] at hr
    have hr2 : ∀ S, callM (evalFn Φ (k + 2)) true "is_row" [x.m, .int 4] S = .ok (.bl true) S := hr
    unfold wdX
    by_cases c1 : x.r > 9
    · simp [d_check_wish, hr2, hs, hbt, bindT.go, ea, t_bl, c_gt, c1, R.when, bad]
    · by_cases c2 : x.e > 9999
      · simp [d_check_wish, hr2, hs, hbt, bindT.go, ea, t_bl, c_gt, c1, c2, R.when, bad]
      · by_cases c3 : x.b ≥ x.e
        · have c3' : x.e ≤ x.b := c3
          simp [d_check_wish, hr2, hs, hbt, bindT.go, ea, t_bl, c_gt, c_ge, c1, c2, c3', R.when, bad]
        · have c3' : ¬ x.e ≤ x.b := c3
          by_cases c4 : x.w > 999
          · simp [d_check_wish, hr2, hs, hbt, bindT.go, ea, t_bl, c_gt, c_ge, c1, c2, c3', c4, R.when, bad]
          · simp [d_check_wish, hr2, hs, hbt, bindT.go, ea, t_bl, c_gt, c_ge, c1, c2, c3', c4, R.when, bad]
  · rw [e]
    have hr2 : ∀ S, callM (evalFn Φ (k + 2)) true "is_row" [m, .int 4] S = .ok (.bl false) S := fun S => by rw [← hh]; exact hr S
    simp [d_check_wish, hr2, t_bl, R.when, bad]
  · rw [e]
    have hr' : isRow 4 (.tup l) = true := by simp [isRow, hl]
    rw [hr'] at hr
    have hr2 : ∀ S, callM (evalFn Φ (k + 2)) true "is_row" [.tup l, .int 4] S = .ok (.bl true) S := hr
    have hd : ∀ m ∈ l, Ty m := fun m hm => dy_ty (dys_mem (by simpa [Dy] using h) hm)
    have ea : ∀ c2 c3 c4 c5 c6 S, anyRun (evalFn Φ (k + 2)) [some (.int i), some (.tup l), c2, c3, c4, c5, c6] S true (.nm 6) .no (.call true "is_number" (.cons (.var 6) .nil)) [6] ⟨l, .tup l, l⟩ = .ok (.bl false) S := fun c2 c3 c4 c5 c6 S => by
      refine (all_num (l := l) hd ?_ ?_ ?_ ?_).trans ?_
      · rfl
      · unfold big; omega
      · rfl
      · intro m S; simp [wipeE]
      · rw [hn]
    simp [d_check_wish, hr2, ea, t_bl, R.when, bad]
end
end Pg

namespace K03
open PySem PySem.Spec L2 Mi Pg
/-! ### the same -/
mutual
def cn : M → Nat
  | .tup ms => 1 + cns ms
  | .lst ms => 1 + cns ms
  | _ => 1
def cns : List M → Nat
  | [] => 0
  | m :: r => cn m + cns r
end
theorem cn_pos (m : M) : 1 ≤ cn m := by cases m <;> simp [cn] <;> omega
theorem cns_len : ∀ ms : List M, ms.length ≤ cns ms
  | [] => Nat.le_refl _
  | m :: ms => by
    have := cns_len ms
    have := cn_pos m
    simp only [cns, List.length_cons]
    omega
theorem cns_app : ∀ a b : List M, cns (a ++ b) = cns a + cns b
  | [], b => by simp [cns]
  | m :: a, b => by simp only [List.cons_append, cns, cns_app a b]; omega
def hcnt : M → Nat
  | .tup (a :: _) => cn a
  | _ => 0
def hcnts : List M → Nat
  | [] => 0
  | m :: r => hcnt m + hcnts r
theorem hcnts_app : ∀ a b : List M, hcnts (a ++ b) = hcnts a + hcnts b
  | [], b => by simp [hcnts]
  | m :: a, b => by simp [hcnts, hcnts_app a b]; omega
theorem hcnts_same : ∀ l : List M, hcnts (l.map same2) = cns l
  | [] => rfl
  | m :: l => by simp [hcnts, hcnt, same2, cns, hcnts_same l]
theorem dys_app : ∀ a b : List M, Dys (a ++ b) = (Dys a && Dys b)
  | [], b => by simp [Dys]
  | m :: a, b => by simp [Dys, dys_app a b, Bool.and_assoc]
theorem same_ok (k : Nat) (m : M) (hp : Dy m = true) (hs : cn m ≤ 100000) : Wp (evalFn Φ (k + 1) "_law_same" [m, m] []) fun r _ => r = .bl true := by
  have hΦ : Φ "_law_same" = some d__law_same := by rfl
  refine wp_fn hΦ rfl ?_
  simp [d__law_same, mkL, wp_when, big]
  unfold whileRun
  refine wp_while (fun γ S => ∃ (c3 c4 c5 : Option M) (td : List M), γ = [some m, some m, some (.ref 0), c3, c4, c5] ∧ S = [.lst (td.map same2)] ∧ Dys td = true ∧ cns td ≤ 100000) (fun γ S => match S with
    | [.lst td] => hcnts td
    | _ => 0) ?_ _ _ _ ⟨none, none, none, [m], rfl, rfl, by simp [Dys, hp], by simp [cns, hs]⟩ (by have := hs; simp [hcnts, hcnt, lim]; omega)
  rintro γ S ⟨c3, c4, c5, td, rfl, rfl, h1, h2⟩
  rcases List.eq_nil_or_concat td with rfl | ⟨td, x, rfl⟩
  · simp [biop, seqOf, cmpop, truth]
  · rw [List.concat_eq_append] at h1 h2 ⊢
    have hx : Dy x = true := by rw [dys_app] at h1; simp [Dys] at h1; exact h1.2
    have ht : Dys td = true := by rw [dys_app] at h1; simp [Dys] at h1; exact h1.1
    have hl := cns_len td
    rw [cns_app] at h2
    simp only [cns] at h2
    have step : ∀ u, Dys u = true → cns u < cn x → (∃ y, td.map same2 ++ u.map same2 = List.map same2 y ∧ Dys y = true ∧ cns y ≤ 100000) ∧ hcnts (td.map same2 ++ u.map same2) < hcnts (td.map same2 ++ [same2 x]) := by
      intro u h3 h4
      exact ⟨⟨td ++ u, by simp, by rw [dys_app, ht, h3]; rfl, by rw [cns_app]; omega⟩, by rw [hcnts_app, hcnts_app, hcnts_same, hcnts_same]; simp only [hcnts, hcnt, same2]; omega⟩
    have leaf := step [] rfl (by have := cn_pos x; simp only [cns]; omega)
    rw [List.map_nil, List.append_nil] at leaf
    have nz : (0 : Int) < (td.length : Int) + 1 := by omega
    simp [bt_nm, biop, seqOf, cmpop, eqM, nz, truth, lstOf, meop, same2, bt_tu, bindT.go]
    cases x with
    | non => simpa [Mi.isNon, truth, cmpop, isiop, tyOf, isTy, eqM, same2] using leaf
    | bl b => simpa [Mi.isNon, truth, cmpop, isiop, tyOf, isTy, eqM, same2] using leaf
    | int i => simpa [Mi.isNon, truth, cmpop, isiop, tyOf, isTy, eqM, same2] using leaf
    | str s => simpa [Mi.isNon, truth, cmpop, isiop, tyOf, isTy, eqM, same2] using leaf
    | tup ms =>
      have hm : Dys ms = true := by simpa [Dy] using hx
      have hlm := cns_len ms
      simp only [cn] at h2
      have hr : RgOk' 0 ms.length := rg_len _ (by omega)
      have e2 : ∀ γ0 S0, lcRun (evalFn Φ k) [some m, some m, some (.ref 0), some (.tup ms), some (.tup ms), γ0] S0 (.nm 5) .no (.tup (.cons (.ix (.var 3) (.var 5)) (.cons (.ix (.var 4) (.var 5)) .nil))) [5] ⟨rangeL 0 ms.length, .tup [], []⟩ = .ok (ms.map same2) S0 := fun γ0 S0 => by
        unfold lcRun
        rw [R.when_true (by show (rangeL 0 ms.length).length ≤ big; rw [len_range]; unfold big; omega)]
        rw [wp_comp (by rfl) (pickS ms)]
        · show R.ok ((rangeL 0 ms.length).filterMap _) S0 = _
          rw [same2_range]
        · intro y hy
          have hy : y ∈ rangeL 0 ms.length := hy
          rw [rangeN] at hy
          obtain ⟨j, hj, rfl⟩ := List.mem_map.mp hy
          have hj := List.mem_range.mp hj
          have e3 : atI ms (j : Int) = some ms[j] := by
            unfold atI ixN
            rw [if_pos (by omega), if_pos (by omega)]
            simp [hj]
          simp [turnP, bt_nm, wipeE, ixt, e3, hj, same2, R.calm, big, R.when, pickS]
      have hb : td.length + ms.length ≤ 1000000 := by omega
      have fin := step ms hm (by simp [cn])
      simpa [Mi.isNon, truth, cmpop, isiop, tyOf, isTy, eqM, biop, seqOf, wp_when, hr, e2, mkL, lstOf, meop, hb, same2, R.when, big] using fin
    | lst ms =>
      have hm : Dys ms = true := by simpa [Dy] using hx
      have hlm := cns_len ms
      simp only [cn] at h2
      have hr : RgOk' 0 ms.length := rg_len _ (by omega)
      have e2 : ∀ γ0 S0, lcRun (evalFn Φ k) [some m, some m, some (.ref 0), some (.lst ms), some (.lst ms), γ0] S0 (.nm 5) .no (.tup (.cons (.ix (.var 3) (.var 5)) (.cons (.ix (.var 4) (.var 5)) .nil))) [5] ⟨rangeL 0 ms.length, .tup [], []⟩ = .ok (ms.map same2) S0 := fun γ0 S0 => by
        unfold lcRun
        rw [R.when_true (by show (rangeL 0 ms.length).length ≤ big; rw [len_range]; unfold big; omega)]
        rw [wp_comp (by rfl) (pickS ms)]
        · show R.ok ((rangeL 0 ms.length).filterMap _) S0 = _
          rw [same2_range]
        · intro y hy
          have hy : y ∈ rangeL 0 ms.length := hy
          rw [rangeN] at hy
          obtain ⟨j, hj, rfl⟩ := List.mem_map.mp hy
          have hj := List.mem_range.mp hj
          have e3 : atI ms (j : Int) = some ms[j] := by
            unfold atI ixN
            rw [if_pos (by omega), if_pos (by omega)]
            simp [hj]
          simp [turnP, bt_nm, wipeE, ixl, e3, hj, same2, R.calm, big, R.when, pickS]
      have hb : td.length + ms.length ≤ 1000000 := by omega
      have fin := step ms hm (by simp [cn])
      simpa [Mi.isNon, truth, cmpop, isiop, tyOf, isTy, eqM, biop, seqOf, wp_when, hr, e2, mkL, lstOf, meop, hb, same2, R.when, big] using fin
    | scr ms => simp [Dy] at hx
    | ref ms => simp [Dy] at hx
theorem same_call (k : Nat) (S : Store) (m : M) (hp : Dy m = true) (hs : cn m ≤ 100000) : callM (evalFn Φ (k + 1)) true "_law_same" [m, m] S = .ok (.bl true) S := by
  obtain ⟨r, S', e, rfl⟩ := (same_ok k m hp hs).ex
  exact pure_call (by simp [derefs, de_ty S (dy_ty hp)]) e rfl
end K03

namespace K03
open PySem PySem.Spec L2 Mi Pg
/-! ### asked -/
theorem dy_due (w : String) (o : Option Int) : Dy (dueM w o) = true ∧ cn (dueM w o) ≤ 4 := by
  cases o with
  | none => exact ⟨rfl, by simp [dueM, lineM, cn, cns]⟩
  | some v => exact ⟨rfl, by simp [dueM, toldM, cn, cns]⟩
def loB (w fn : String) : Sms := (.cons (.ife (.not (.v (.call true "_law_same" (.cons (.call true "_law_heard" (.cons (.con (.str w)) (.cons (.var 4) .nil))) (.cons (.call true fn (.cons (.var 4) .nil)) .nil))))) (.cons (.ret (.con (.bl false))) .nil) .nil) .nil)
theorem loop_ok (k : Nat) (w fn : String) (V : List Nat → Option Int) (hh : ∀ l : List Nat, l.length ≤ 900 → ∀ S, callM (evalFn Φ (k + 4)) true "_law_heard" [.str (Str.ofString w), tM l] S = .ok (dueM w (V l)) S) (hd : ∀ l : List Nat, l.length ≤ 900 → ∀ S, callM (evalFn Φ (k + 4)) true fn [tM l] S = .ok (dueM w (V l)) S)
    (ls : List (List Nat)) (hl : ∀ l ∈ ls, l.length ≤ 900) (c0 c1 c2 c3 c4 : Option M) (rest : Mi.Env) (S : Store) {P : F → Store → Prop} (hP : ∀ c4', P (.nx (c0 :: c1 :: c2 :: c3 :: c4' :: rest)) S) :
    Wp (forRun (evalFn Φ (k + 4)) (c0 :: c1 :: c2 :: c3 :: c4 :: rest) S (.nm 4) (loB w fn) ⟨ls.map tM, .lst (ls.map tM), ls.map tM⟩) P := by
  unfold forRun
  refine wp_for (fun i γ S' => S' = S ∧ ∃ c4', γ = c0 :: c1 :: c2 :: c3 :: c4' :: rest) _ (by rintro i γ S' _ ⟨rfl, _⟩; rfl) ?_ ?_ _ _ ⟨rfl, c4, rfl⟩
  · rintro i x γ S' hx ⟨rfl, c4', rfl⟩
    have hx : (ls.map tM)[i]? = some x := hx
    rw [List.getElem?_map] at hx
    obtain ⟨l, hl', rfl⟩ := Option.map_eq_some_iff.mp hx
    have hlen := hl l (List.mem_of_getElem? hl')
    obtain ⟨d1, d2⟩ := dy_due w (V l)
    have q1 : ∀ S, callM (evalFn Φ (k + 4)) true "_law_same" [dueM w (V l), dueM w (V l)] S = .ok (.bl true) S := fun S => same_call (k + 3) S _ d1 (by omega)
    rw [bt_nm, R.of_some]
    simp only [List.set_cons_succ, List.set_cons_zero, loB]
    rw [q_scons, wp_bind, q_ifS, q_Tnot, q_Tv]
    simp only [q_call, q_cons, q_nil, q_cstr, q_var, varM_s, varM_0, R.bind_ok, hh l hlen, hd l hlen, q1, t_bl, R.of_some, Bool.not_true, Bool.false_eq_true, if_false, q_snil, wp_ok, nextM_nx]
    exact ⟨trivial, _, rfl⟩
  · rintro γ S' ⟨rfl, c4', rfl⟩
    exact hP c4'
abbrev aR : Sms := match d__law_asked.body with | .cons _ (.cons _ (.cons _ (.cons _ (.cons _ (.cons _ r))))) => r | _ => .nil
theorem due_time4 (k : Nat) (l : List Nat) (hl : l.length ≤ 900) (S : Store) : callM (evalFn Φ (k + 4)) true "_law_due_time" [tM l] S = .ok (dueM "time" (timeV l)) S := due_time_call (k + 2) l hl S
theorem due_len4 (k : Nat) (l : List Nat) (hl : l.length ≤ 900) (S : Store) : callM (evalFn Φ (k + 4)) true "_law_due_length" [tM l] S = .ok (dueM "length" (lenV l)) S := due_len_call (k + 2) l hl S
set_option maxHeartbeats 0 in
theorem asked_rest (k : Nat) (c1 c2 : Option M) (tl ll : List Nat) (h1 : tl.length ≤ 100) (h2 : ll.length ≤ 100) {S T : Store} (h : Rn S T) {P : M → Store → Prop} (hP : ∀ S', Rn S' T → P (.bl true) S') :
    Wp (exs (evalFn Φ (k + 4)) aR [some (.ref 2), c1, c2, none, none, some (tM tl), some (tM ll), none] S) fun fl S => Wp (Mi.fin fl S) P := by
  have mk0 : ∀ (l : List M) S, mkL false l S = .ok (.lst l) S := fun _ _ => rfl
  have l1 := fun (ls : List (List Nat)) (hl : ∀ l ∈ ls, l.length ≤ 900) (c0 c1 c2 c3 c4 : Option M) (rest : Mi.Env) (S : Store) (P : F → Store → Prop) hP => loop_ok k "time" "_law_due_time" timeV (fun l hl S => heard_time k l hl S) (due_time4 k) ls hl c0 c1 c2 c3 c4 rest S (P := P) hP
  have l2 := fun (ls : List (List Nat)) (hl : ∀ l ∈ ls, l.length ≤ 900) (c0 c1 c2 c3 c4 : Option M) (rest : Mi.Env) (S : Store) (P : F → Store → Prop) hP => loop_ok k "length" "_law_due_length" lenV (fun l hl S => heard_len k l hl S) (due_len4 k) ls hl c0 c1 c2 c3 c4 rest S (P := P) hP
  simp only [loB] at l1 l2
  have hcol : ∀ (a : List Nat), a.length ≤ 1000 → ∀ S, binop false .add (tM a) (.str (Str.ofString ":")) S = .ok (tM (a ++ [58])) S := fun a ha S => col_t false a ha S
  have hh : ∀ (a : List Nat), a.length ≤ 1000 → ∀ S, binop false .add (tM a) (.str (Str.ofString "h")) S = .ok (tM (a ++ [104])) S := fun a ha S => h_t false a ha S
  simp only [aR, d__law_asked]
  rw [q_scons, wp_bind, q_set, q_lst]
  simp only [q_cons, q_nil, q_bin, q_call, q_join, q_lc, q_Ir1, q_cstr, q_cint, q_var, varM_s, varM_0, R.bind_ok, callM_false, wp_bind]
  refine word_ok (k + 1) h fun w1 S1 r1 n1 => ?_
  rw [hcol w1 (by omega), wp_ok]
  refine word_ok (k + 1) r1 fun w2 S2 r2 n2 => ?_
  rw [add_t false _ _ (by simp; omega), wp_ok]
  have hst : strOf (M.str (Str.ofString ":")) = some (sx [58]) := by rw [colon]; rfl
  simp only [hst, R.of_some, wp_bind]
  refine ripple (k + 3) 4 (by decide) r2 fun v S3 r3 a3 b3 => ?_
  obtain ⟨n, hn⟩ : ∃ n : Nat, 1 + v = (n : Int) := ⟨(1 + v).toNat, by omega⟩
  have hr : RgOk' 0 (n : Int) := rg_len _ (by omega)
  simp only [b_add, hn, wp_ok, intM_int, R.bind_ok, wp_when]
  refine ⟨hr, ?_⟩
  unfold lcRun
  rw [wp_when]
  refine ⟨by show (rangeL 0 (n : Int)).length ≤ big; rw [len_range]; unfold big; omega, ?_⟩
  refine wp_compI (s := ⟨rangeL 0 (n : Int), .tup [], []⟩) (fun S => Rn S T) (fun _ _ => rfl) (fun _ y => ∃ l, y = tM l ∧ l.length ≤ 12) _ S3 r3 ?_ ?_
  · intro x hx S4 r4
    unfold turnP
    rw [bt_nm, R.of_some, q_tno, R.bind_ok, if_pos rfl, wp_calm]
    simp only [wipeE, List.set_cons_succ, List.set_cons_zero, q_call, q_cons, q_nil, q_var, varM_s, varM_0, R.bind_ok, callM_false, wp_bind]
    refine word_ok (k + 1) r4 fun l S5 r5 hl => ?_
    simp only [wp_ok]
    exact ⟨r5, _, rfl, _, rfl, hl⟩
  intro r S4 r4 hlen hA
  have hlen : r.length = (rangeL 0 (n : Int)).length := hlen
  rw [len_range] at hlen
  obtain ⟨ls, rfl, hls⟩ : ∃ ls : List (List Nat), r = ls.map tM ∧ ∀ l ∈ ls, l.length ≤ 12 := by
    have key : ∀ r : List M, (∀ y ∈ r, ∃ l, y = tM l ∧ l.length ≤ 12) → ∃ ls : List (List Nat), r = ls.map tM ∧ ∀ l ∈ ls, l.length ≤ 12 := by
      intro r
      induction r with
      | nil => exact fun _ => ⟨[], rfl, by simp⟩
      | cons m r ih =>
        intro hm
        obtain ⟨c, rfl, hc⟩ := hm m List.mem_cons_self
        obtain ⟨ls, rfl, h2⟩ := ih fun y hy => hm y (List.mem_cons_of_mem _ hy)
        exact ⟨c :: ls, rfl, fun l hl => by
          rcases List.mem_cons.mp hl with rfl | hl
          · exact hc
          · exact h2 l hl⟩
    refine key r fun y hy => ?_
    obtain ⟨i, hi, e⟩ := List.getElem_of_mem hy
    have hi' : i < (rangeL 0 (n : Int)).length := by rw [len_range]; omega
    exact hA i _ y (List.getElem?_eq_getElem hi') (by rw [List.getElem?_eq_getElem hi, e])
  rw [List.length_map] at hlen
  obtain ⟨jl, ej, hj⟩ := join_t [58] ls 12 hls (by simp; omega) S4
  have hj' : jl.length ≤ 100 := by simp at hj; omega
  rw [mk0, wp_ok]
  try simp only [wp_bind]
  rw [ej, wp_ok]
  try simp only [wp_bind]
  refine bent_ok (k + 1) tl (by omega) r4 fun bl S5 r5 nb => ?_
  simp only [wp_ok, List.length_cons, List.length_nil, Nat.reduceAdd, wp_when, mk0]
  refine ⟨by decide, ?_⟩
  simp only [nextM_nx, List.set_cons_succ, List.set_cons_zero]
  rw [q_scons, wp_bind, q_set, q_bin, q_var]
  simp only [varM_s, varM_0, R.bind_ok, q_lst, q_cons, q_nil, q_bin, q_call, q_cstr, q_cint, q_var, callM_false, wp_bind]
  refine ripple (k + 3) 30 (by decide) r5 fun x1 S6 r6 a6 b6 => ?_
  obtain ⟨y1, rfl, hy1⟩ : ∃ y : Nat, x1 = y ∧ y < 100 := ⟨x1.toNat, by omega, by omega⟩
  rw [wp_ok, ltwo_call (k + 3) y1 hy1, wp_ok, hcol _ (by rw [two_len]; omega), wp_ok]
  refine ripple (k + 3) 70 (by decide) r6 fun x2 S7 r7 a7 b7 => ?_
  obtain ⟨y2, rfl, hy2⟩ : ∃ y : Nat, x2 = y ∧ y < 100 := ⟨x2.toNat, by omega, by omega⟩
  rw [wp_ok, ltwo_call (k + 3) y2 hy2, wp_ok, add_t false _ _ (by simp [two_len]), wp_ok]
  refine word_ok (k + 1) r7 fun w3 S8 r8 n3 => ?_
  rw [hcol w3 (by omega), wp_ok]
  refine ripple (k + 3) 24 (by decide) r8 fun x3 S9 r9 a9 b9 => ?_
  obtain ⟨y3, rfl, hy3⟩ : ∃ y : Nat, x3 = y ∧ y < 100 := ⟨x3.toNat, by omega, by omega⟩
  rw [wp_ok, ltwo_call (k + 3) y3 hy3, wp_ok, add_t false _ _ (by simp [two_len]; omega), wp_ok, hcol _ (by simp [two_len]; omega), wp_ok]
  refine ripple (k + 3) 60 (by decide) r9 fun x4 S10 r10 a10 b10 => ?_
  obtain ⟨y4, rfl, hy4⟩ : ∃ y : Nat, x4 = y ∧ y < 100 := ⟨x4.toNat, by omega, by omega⟩
  rw [wp_ok, ltwo_call (k + 3) y4 hy4, wp_ok, add_t false _ _ (by simp [two_len]; omega), wp_ok]
  simp only [wp_ok, List.length_cons, List.length_nil, Nat.reduceAdd, wp_when, mk0, b_lst]
  refine ⟨by decide, by decide, ?_⟩
  simp only [nextM_nx, List.set_cons_succ, List.set_cons_zero, List.cons_append, List.nil_append]
  rw [q_scons, wp_bind, q_for, q_Ival, q_var]
  simp only [varM_s, varM_0, R.bind_ok, seq_lst, R.of_some]
  refine l1 [w1 ++ [58] ++ w2, jl, bl, two y1 ++ [58] ++ two y2, w3 ++ [58] ++ two y3 ++ [58] ++ two y4] (fun l hl => ?_) _ _ _ _ _ _ _ _ fun c4 => ?_
  · simp only [List.mem_cons, List.not_mem_nil, or_false] at hl
    rcases hl with rfl | rfl | rfl | rfl | rfl <;> (try simp [two_len]) <;> omega
  rw [nextM_nx, q_scons, wp_bind, q_set, q_lst]
  simp only [q_cons, q_nil, q_bin, q_call, q_cstr, q_cint, q_var, varM_s, varM_0, R.bind_ok, callM_false, wp_bind]
  refine word_ok (k + 1) r10 fun u1 S11 r11 m1 => ?_
  try simp only [wp_ok]
  refine word_ok (k + 1) r11 fun u2 S12 r12 m2 => ?_
  rw [hh u2 (by omega), wp_ok]
  refine word_ok (k + 1) r12 fun u3 S13 r13 m3 => ?_
  rw [add_t false _ _ (by simp; omega), wp_ok]
  refine word_ok (k + 1) r13 fun u4 S14 r14 m4 => ?_
  rw [hh u4 (by omega), wp_ok]
  refine bent_ok (k + 1) ll (by omega) r14 fun bl2 S15 r15 nb2 => ?_
  try simp only [wp_ok]
  refine word_ok (k + 1) r15 fun u5 S16 r16 m5 => ?_
  rw [hh u5 (by omega), wp_ok]
  refine ripple (k + 3) 70 (by decide) r16 fun x5 S17 r17 a17 b17 => ?_
  obtain ⟨y5, rfl, hy5⟩ : ∃ y : Nat, x5 = y ∧ y < 100 := ⟨x5.toNat, by omega, by omega⟩
  rw [ltwo_call (k + 3) y5 hy5, wp_ok, add_t false _ _ (by simp [two_len]; omega), wp_ok]
  simp only [wp_ok, List.length_cons, List.length_nil, Nat.reduceAdd, wp_when, mk0]
  refine ⟨by decide, ?_⟩
  simp only [nextM_nx, List.set_cons_succ, List.set_cons_zero]
  rw [q_scons, wp_bind, q_for, q_Ival, q_var]
  simp only [varM_s, varM_0, R.bind_ok, seq_lst, R.of_some]
  refine l2 [u1, u2 ++ [104] ++ u3, u4 ++ [104], bl2, u5 ++ [104] ++ two y5] (fun l hl => ?_) _ _ _ _ _ _ _ _ fun c4' => ?_
  · simp only [List.mem_cons, List.not_mem_nil, or_false] at hl
    rcases hl with rfl | rfl | rfl | rfl | rfl <;> (try simp [two_len]) <;> omega
  rw [nextM_nx, q_scons, wp_bind, q_ret]
  simp only [q_cbl, R.bind_ok, wp_ok, nextM_ret, fin_ret]
  exact hP S17 r17
set_option maxHeartbeats 0 in
theorem asked_ok (k : Nat) {S T : Store} (h : Rn S T) {P : M → Store → Prop} (hP : ∀ S', Rn S' T → P (.bl true) S') : Wp (evalFn Φ (k + 5) "_law_asked" [.ref 2] S) P := by
  have hΦ : Φ "_law_asked" = some d__law_asked := by rfl
  refine wp_fn hΦ rfl ?_
  have rest := fun (c1 c2 : Option M) (tl ll : List Nat) h1 h2 {S T : Store} (h : Rn S T) (P : M → Store → Prop) hP => asked_rest k c1 c2 tl ll h1 h2 h (P := P) hP
  simp only [aR, d__law_asked] at rest
  have b2 : (2 : Nat) ≤ big := by decide
  simp only [d__law_asked, List.map_cons, List.map_nil, List.cons_append, List.nil_append, List.length_cons, List.length_nil, List.replicate, Nat.reduceAdd, Nat.reduceSub]
  rw [q_scons, wp_bind, q_set]
  simp only [q_call, q_cons, q_nil, q_var, varM_s, varM_0, R.bind_ok, callM_false, wp_bind]
  refine minute_ok (k + 1) h fun n S1 r1 hn => ?_
  have e1 : ∀ S, callM (evalFn Φ (k + 4)) true "_law_time" [.int (n : Int)] S = .ok (tM (timeS n)) S := ltime_call (k + 2) n (by omega)
  have e2 : ∀ S, callM (evalFn Φ (k + 4)) true "_law_length" [.int (n : Int)] S = .ok (tM (lenS n)) S := llen_call (k + 2) n (by omega)
  have e3 : ∀ S, callM (evalFn Φ (k + 4)) true "time_text" [.int (n : Int)] S = .ok (tM (timeS n)) S := ptime_call (k + 2) n (by omega)
  have e4 : ∀ S, callM (evalFn Φ (k + 4)) true "length_text" [.int (n : Int)] S = .ok (tM (lenS n)) S := plen_call (k + 2) n (by omega)
  have tl := timeS_len n (by omega)
  have ll := lenS_len n (by omega)
  have e5 := heard_time k (timeS n) (by omega)
  have e6 := heard_len k (lenS n) (by omega)
  rw [timeV_S n (by omega)] at e5
  rw [lenV_S n (by omega)] at e6
  have q1 : ∀ S, callM (evalFn Φ (k + 4)) true "_law_same" [.tup [tM (timeS n), tM (lenS n)], .tup [tM (timeS n), tM (lenS n)]] S = .ok (.bl true) S := fun S => same_call (k + 3) S _ rfl (by simp [tM, cn, cns])
  have q2 : ∀ S, callM (evalFn Φ (k + 4)) true "_law_same" [.tup [dueM "time" (some (n : Int)), dueM "length" (some (n : Int))], .tup [.tup [.str (Str.ofString "told"), .int (n : Int)], .tup [.str (Str.ofString "told"), .int (n : Int)]]] S = .ok (.bl true) S := fun S => same_call (k + 3) S (.tup [.tup [.str (Str.ofString "told"), .int (n : Int)], .tup [.str (Str.ofString "told"), .int (n : Int)]]) rfl (by simp [cn, cns])
  simp only [wp_ok, nextM_nx, List.set_cons_succ, List.set_cons_zero]
  rw [q_scons, wp_bind, q_par]
  simp only [q_call, q_cons, q_nil, q_var, varM_s, varM_0, R.bind_ok, e1, e2, List.length_cons, List.length_nil, Nat.reduceAdd, R.when_true (show (2 : Nat) = 2 from rfl), bindT.go, wp_ok, nextM_nx, List.set_cons_succ, List.set_cons_zero]
  try simp only [R.when, if_true, wp_ok, nextM_nx, List.set_cons_succ, List.set_cons_zero]
  rw [q_scons, wp_bind, q_ifS, q_Tnot, q_Tv]
  simp only [q_call, q_cons, q_nil, q_tup, q_var, varM_s, varM_0, R.bind_ok, e3, e4, List.length_cons, List.length_nil, Nat.reduceAdd, R.when_true b2, q1, t_bl, R.of_some, Bool.not_true, Bool.false_eq_true, if_false, q_snil, wp_ok, nextM_nx]
  rw [q_scons, wp_bind, q_ifS, q_Tnot, q_Tv]
  simp only [q_call, q_cons, q_nil, q_tup, q_cstr, q_var, varM_s, varM_0, R.bind_ok, e5, e6, List.length_cons, List.length_nil, Nat.reduceAdd, R.when_true b2, q2, t_bl, R.of_some, Bool.not_true, Bool.false_eq_true, if_false, q_snil, wp_ok, nextM_nx]
  rw [q_scons, wp_bind, q_set, q_bin]
  simp only [q_bin, q_call, q_cons, q_nil, q_tup, q_var, varM_s, varM_0, q_cint, R.bind_ok, callM_false, wp_bind]
  refine ripple (k + 3) 900000000 (by decide) r1 fun v S2 r2 a2 b2' => ?_
  simp only [wp_ok, List.length_cons, List.length_nil, Nat.reduceAdd, wp_when]
  refine ⟨by decide, ?_⟩
  have o1 := fun {P : M → Store → Prop} hP => of_ok (k + 2) [10, 365, 99999, 0, v] (by simp) (by simp) r2 (P := P) hP
  simp only [im, List.map_cons, List.map_nil] at o1
  refine o1 fun z S3 r3 hz => ?_
  obtain ⟨zn, rfl, hzn⟩ : ∃ zn : Nat, z = zn ∧ zn < 900000000 := by
    simp only [List.mem_cons, List.not_mem_nil, or_false] at hz
    exact ⟨z.toNat, by omega, by omega⟩
  obtain ⟨m, hm, hmb⟩ : ∃ m : Nat, (n : Int) + 1440 * (zn : Int) = m ∧ m < 1440 * 10 ^ 9 := ⟨n + 1440 * zn, by push_cast; rfl, by omega⟩
  rw [b_mul, R.when_true (cmul_l (by decide) (by decide)), wp_ok, b_add, hm]
  simp only [wp_ok, nextM_nx, List.set_cons_succ, List.set_cons_zero]
  have f1 : ∀ S, callM (evalFn Φ (k + 4)) true "_law_time" [.int (m : Int)] S = .ok (tM (timeS m)) S := ltime_call (k + 2) m hmb
  have tl2 := timeS_len m (by omega)
  have f2 := heard_time k (timeS m) (by omega)
  rw [timeV_S m hmb] at f2
  have e9 : ∀ S, binop false .pow (.int 10) (.int 9) S = .ok (.int ((1000000000 : Nat) : Int)) S := fun S => R.when_true (c := 0 ≤ (9 : Int) ∧ (9 : Int).natAbs ≤ 1000000 ∧ (10 : Int).natAbs < 2 ^ 64) (by decide +kernel) _
  have f3 : ∀ S, binop false .mod (.int (m : Int)) (.int ((1000000000 : Nat) : Int)) S = .ok (.int ((m % 1000000000 : Nat) : Int)) S := b_mod_n false m 1000000000 (by decide)
  obtain ⟨p, hp, hpb⟩ : ∃ p : Nat, m % 1000000000 = p ∧ p < 10 ^ 9 := ⟨_, rfl, by omega⟩
  rw [hp] at f3
  have f4 := num_t p (by omega)
  have f5 := heard_len k (TL.numL p) (by have := TL.numL_len (n := p) (k := 9) (by decide) hpb; omega)
  rw [lenV_num p hpb] at f5
  have q3 : ∀ S, callM (evalFn Φ (k + 4)) true "_law_same" [.tup [dueM "time" (some (m : Int)), dueM "length" (some (p : Int))], .tup [.tup [.str (Str.ofString "told"), .int (m : Int)], .tup [.str (Str.ofString "told"), .int (p : Int)]]] S = .ok (.bl true) S := fun S => same_call (k + 3) S (.tup [.tup [.str (Str.ofString "told"), .int (m : Int)], .tup [.str (Str.ofString "told"), .int (p : Int)]]) rfl (by simp [cn, cns])
  rw [q_scons, wp_bind, q_ifS, q_Tnot, q_Tv]
  simp only [q_call, q_cons, q_nil, q_tup, q_bi, q_bin, q_cstr, q_cint, q_var, varM_s, varM_0, R.bind_ok, f1, f2, bi_int, e9, f3, f4, f5, List.length_cons, List.length_nil, Nat.reduceAdd, R.when_true b2, q3, t_bl, R.of_some, Bool.not_true, Bool.false_eq_true, if_false, q_snil, wp_ok, nextM_nx]
  exact rest _ _ (timeS n) (lenS n) (by omega) (by omega) r3 P hP
end K03

namespace K03
open PySem PySem.Spec L2 Mi Pg
/-! ### rows by hand -/
abbrev Row := List Nat × Option Int
def rM (r : Row) : M := .tup [tM r.1, optM r.2]
theorem deq_due (w : String) (hw : PyData.strOk (Str.ofString w) = true) (o : Option Int) (S : Store) : deqop true (dueM w o) (dueM w o) S = .ok (.bl false) S := by
  have h1 : PyData.strOk (Str.ofString "line") = true := by decide +kernel
  have h2 : PyData.strOk (Str.ofString "told") = true := by decide +kernel
  cases o with
  | none => simp [deqop, dueM, lineM, toD, toDs, R.when, SeqAt.shaped, PyData.canLay0, PyData.canLayAll0, PyData.depth, PyData.depthAll, PyData.eqv, PyData.eqvAll, hw, h1]
  | some v => simp [deqop, dueM, toldM, toD, toDs, R.when, SeqAt.shaped, PyData.canLay0, PyData.canLayAll0, PyData.depth, PyData.depthAll, PyData.eqv, PyData.eqvAll, h2]
theorem dy_due' (w : String) (o : Option Int) : Dy (dueM w o) = true ∧ cn (dueM w o) ≤ 4 := by
  cases o with
  | none => exact ⟨rfl, by simp [dueM, lineM, cn, cns]⟩
  | some v => exact ⟨rfl, by simp [dueM, toldM, cn, cns]⟩
def haB (w fn : String) : Sms := (.cons (.set 3 (.ife (.v (.cmp .isN (.var 3) (.con .non))) (.tup (.cons (.con (.str "line")) (.cons (.con (.int 1)) (.cons (.con (.str w)) .nil)))) (.tup (.cons (.con (.str "told")) (.cons (.var 3) .nil))))) (.cons (.ife (.or (.v (.deq true (.var 3) (.call true fn (.cons (.var 2) .nil)))) (.one (.not (.v (.call true "_law_same" (.cons (.call true "_law_heard" (.cons (.con (.str w)) (.cons (.var 2) .nil))) (.cons (.var 3) .nil))))))) (.cons (.ret (.con (.bl false))) .nil) .nil) .nil))
theorem due_ev (w : String) (o : Option Int) (call : String → List M → Store → R M) (c0 c1 c2 : Option M) (S : Store) : ev call (.ife (.v (.cmp .isN (.var 3) (.con .non))) (.tup (.cons (.con (.str "line")) (.cons (.con (.int 1)) (.cons (.con (.str w)) .nil)))) (.tup (.cons (.con (.str "told")) (.cons (.var 3) .nil)))) [c0, c1, c2, some (optM o)] S = .ok (dueM w o) S := by
  cases o with
  | none => simp [optM, cmpop, Mi.isNon, t_bl, R.when, big, dueM, lineM]
  | some v => simp [optM, cmpop, Mi.isNon, t_bl, R.when, big, dueM, toldM]
theorem hand_loop (k : Nat) (w fn : String) (hw : PyData.strOk (Str.ofString w) = true) (V : List Nat → Option Int) (hh : ∀ l : List Nat, l.length ≤ 900 → ∀ S, callM (evalFn Φ (k + 4)) true "_law_heard" [.str (Str.ofString w), tM l] S = .ok (dueM w (V l)) S) (hd : ∀ l : List Nat, l.length ≤ 900 → ∀ S, callM (evalFn Φ (k + 4)) true fn [tM l] S = .ok (dueM w (V l)) S)
    (ls : List Row) (hl : ∀ l ∈ ls, l.1.length ≤ 900 ∧ V l.1 = l.2) (c0 c1 c2 c3 : Option M) (S : Store) {P : F → Store → Prop} (hP : ∀ c2' c3', P (.nx [c0, c1, c2', c3']) S) :
    Wp (forRun (evalFn Φ (k + 4)) [c0, c1, c2, c3] S (.tu [2, 3]) (haB w fn) ⟨ls.map rM, .lst (ls.map rM), ls.map rM⟩) P := by
  unfold forRun
  refine wp_for (fun i γ S' => S' = S ∧ ∃ c2' c3', γ = [c0, c1, c2', c3']) _ (by rintro i γ S' _ ⟨rfl, _⟩; rfl) ?_ ?_ _ _ ⟨rfl, c2, c3, rfl⟩
  · rintro i x γ S' hx ⟨rfl, c2', c3', rfl⟩
    have hx : (ls.map rM)[i]? = some x := hx
    rw [List.getElem?_map] at hx
    obtain ⟨⟨l, o⟩, hl', rfl⟩ := Option.map_eq_some_iff.mp hx
    obtain ⟨hlen, hv⟩ := hl _ (List.mem_of_getElem? hl')
    simp only at hlen hv
    obtain ⟨d1, d2⟩ := dy_due' w o
    have hh := hh l hlen
    have hd := hd l hlen
    rw [hv] at hh hd
    have q1 : ∀ S, callM (evalFn Φ (k + 4)) true "_law_same" [dueM w o, dueM w o] S = .ok (.bl true) S := fun S => same_call (k + 3) S _ d1 (by omega)
    have hb : bindT (.tu [2, 3]) (rM (l, o)) [c0, c1, c2', c3'] = some [c0, c1, some (tM l), some (optM o)] := rfl
    rw [hb, R.of_some]
    simp only [haB]
    rw [q_scons, wp_bind, q_set, due_ev]
    simp only [R.bind_ok, wp_ok, nextM_nx, List.set_cons_succ, List.set_cons_zero]
    rw [q_scons, wp_bind, q_ifS, q_Tor, q_Tv, q_deq]
    simp only [q_Tone, q_Tnot, q_Tv, q_call, q_cons, q_nil, q_cstr, q_var, varM_s, varM_0, R.bind_ok, hh, hd, deq_due w hw, q1, t_bl, R.of_some, Bool.not_true, Bool.false_eq_true, if_false, q_snil, wp_ok, nextM_nx]
    exact ⟨trivial, _, _, rfl⟩
  · rintro γ S' ⟨rfl, c2', c3', rfl⟩
    exact hP c2' c3'

def rT1 : List Row := [([48, 58, 48, 48], some 0), ([48, 58, 57], none), ([50, 51, 58, 53, 57], some 1439), ([50, 52, 58, 48, 48], none), ([49, 58, 48, 48, 58, 48, 48], some 1440), ([48, 58, 48, 57, 58, 48, 53], some 545), ([49, 58, 57, 58, 51, 48], some 2010), ([48, 48, 48, 48, 48, 48, 48, 48, 57, 58, 51, 48], some 570), ([48, 48, 48, 48, 48, 48, 48, 48, 48, 57, 58, 51, 48], none), ([57, 58, 54, 48], none), ([57, 58, 48, 51, 48], none), ([], none)]
def rT2 : List Row := [([58, 51, 48], none), ([57, 57, 57, 57, 57, 57, 57, 57, 57, 58, 50, 51, 58, 53, 57], some 1439999999999), ([49, 58, 50, 52, 58, 48, 48], none), ([57, 32, 58, 51, 48], none), ([49, 58, 50, 58, 51, 58, 48, 52], none), ([57, 58, 45, 49], none), ([45, 49, 58, 48, 57, 58, 51, 48], none), ([57, 58, 51, 32, 48], none), ([55], none), ([48, 57, 58, 51, 48], some 570)]
def rL1 : List Row := [([48], some 0), ([57, 48], some 90), ([49, 104, 51, 48], some 90), ([50, 104], some 120), ([50, 104, 53], none), ([50, 104, 54, 48], none), ([104], none), ([104, 51, 48], none), ([48, 104, 48, 48], some 0), ([48, 48, 55], some 7), ([49, 50, 51, 52, 53, 54, 55, 56, 57, 48], none), ([50, 72], none), ([49, 104, 48, 53, 104], none), ([], none), ([50, 32, 104], none)]
def rL2 : List Row := [([49, 50, 51, 52, 53, 54, 55, 56, 57, 104, 53, 57], some 7407407399), ([49, 104, 43, 53], none), ([48, 48, 104, 53, 57], some 59)]
theorem rT_ok : ∀ l ∈ rT1 ++ rT2, l.1.length ≤ 900 ∧ timeV l.1 = l.2 := by decide +kernel
theorem rL_ok : ∀ l ∈ rL1 ++ rL2, l.1.length ≤ 900 ∧ lenV l.1 = l.2 := by decide +kernel
theorem w0 : Str.ofString "0:00" = sx [48, 58, 48, 48] := by decide +kernel
theorem w1 : Str.ofString "0:9" = sx [48, 58, 57] := by decide +kernel
theorem w2 : Str.ofString "23:59" = sx [50, 51, 58, 53, 57] := by decide +kernel
theorem w3 : Str.ofString "24:00" = sx [50, 52, 58, 48, 48] := by decide +kernel
theorem w4 : Str.ofString "1:00:00" = sx [49, 58, 48, 48, 58, 48, 48] := by decide +kernel
theorem w5 : Str.ofString "0:09:05" = sx [48, 58, 48, 57, 58, 48, 53] := by decide +kernel
theorem w6 : Str.ofString "1:9:30" = sx [49, 58, 57, 58, 51, 48] := by decide +kernel
theorem w7 : Str.ofString "000000009:30" = sx [48, 48, 48, 48, 48, 48, 48, 48, 57, 58, 51, 48] := by decide +kernel
theorem w8 : Str.ofString "0000000009:30" = sx [48, 48, 48, 48, 48, 48, 48, 48, 48, 57, 58, 51, 48] := by decide +kernel
theorem w9 : Str.ofString "9:60" = sx [57, 58, 54, 48] := by decide +kernel
theorem w10 : Str.ofString "9:030" = sx [57, 58, 48, 51, 48] := by decide +kernel
theorem w11 : Str.ofString "" = sx [] := by decide +kernel
theorem w12 : Str.ofString ":30" = sx [58, 51, 48] := by decide +kernel
theorem w13 : Str.ofString "999999999:23:59" = sx [57, 57, 57, 57, 57, 57, 57, 57, 57, 58, 50, 51, 58, 53, 57] := by decide +kernel
theorem w14 : Str.ofString "1:24:00" = sx [49, 58, 50, 52, 58, 48, 48] := by decide +kernel
theorem w15 : Str.ofString "9 :30" = sx [57, 32, 58, 51, 48] := by decide +kernel
theorem w16 : Str.ofString "1:2:3:04" = sx [49, 58, 50, 58, 51, 58, 48, 52] := by decide +kernel
theorem w17 : Str.ofString "9:-1" = sx [57, 58, 45, 49] := by decide +kernel
theorem w18 : Str.ofString "-1:09:30" = sx [45, 49, 58, 48, 57, 58, 51, 48] := by decide +kernel
theorem w19 : Str.ofString "9:3 0" = sx [57, 58, 51, 32, 48] := by decide +kernel
theorem w20 : Str.ofString "7" = sx [55] := by decide +kernel
theorem w21 : Str.ofString "09:30" = sx [48, 57, 58, 51, 48] := by decide +kernel
theorem w22 : Str.ofString "0" = sx [48] := by decide +kernel
theorem w23 : Str.ofString "90" = sx [57, 48] := by decide +kernel
theorem w24 : Str.ofString "1h30" = sx [49, 104, 51, 48] := by decide +kernel
theorem w25 : Str.ofString "2h" = sx [50, 104] := by decide +kernel
theorem w26 : Str.ofString "2h5" = sx [50, 104, 53] := by decide +kernel
theorem w27 : Str.ofString "2h60" = sx [50, 104, 54, 48] := by decide +kernel
theorem w28 : Str.ofString "h" = sx [104] := by decide +kernel
theorem w29 : Str.ofString "h30" = sx [104, 51, 48] := by decide +kernel
theorem w30 : Str.ofString "0h00" = sx [48, 104, 48, 48] := by decide +kernel
theorem w31 : Str.ofString "007" = sx [48, 48, 55] := by decide +kernel
theorem w32 : Str.ofString "1234567890" = sx [49, 50, 51, 52, 53, 54, 55, 56, 57, 48] := by decide +kernel
theorem w33 : Str.ofString "2H" = sx [50, 72] := by decide +kernel
theorem w34 : Str.ofString "1h05h" = sx [49, 104, 48, 53, 104] := by decide +kernel
theorem w35 : Str.ofString "2 h" = sx [50, 32, 104] := by decide +kernel
theorem w36 : Str.ofString "123456789h59" = sx [49, 50, 51, 52, 53, 54, 55, 56, 57, 104, 53, 57] := by decide +kernel
theorem w37 : Str.ofString "1h+5" = sx [49, 104, 43, 53] := by decide +kernel
theorem w38 : Str.ofString "00h59" = sx [48, 48, 104, 53, 57] := by decide +kernel
theorem w39 : Str.ofString "1h05" = sx [49, 104, 48, 53] := by decide +kernel
theorem w40 : Str.ofString "59" = sx [53, 57] := by decide +kernel
theorem w41 : Str.ofString "1h" = sx [49, 104] := by decide +kernel
theorem w42 : Str.ofString "166h39" = sx [49, 54, 54, 104, 51, 57] := by decide +kernel
theorem w43 : Str.ofString "6:22:39" = sx [54, 58, 50, 50, 58, 51, 57] := by decide +kernel
theorem w44 : Str.ofString "10:00" = sx [49, 48, 58, 48, 48] := by decide +kernel
theorem w45 : Str.ofString "9:05" = sx [57, 58, 48, 53] := by decide +kernel
theorem ev_rT1 (call : String → List M → Store → R M) (γ : Mi.Env) (S : Store) : ev call (.lst false (.cons (.tup (.cons (.con (.str "0:00")) (.cons (.con (.int 0)) .nil))) (.cons (.tup (.cons (.con (.str "0:9")) (.cons (.con .non) .nil))) (.cons (.tup (.cons (.con (.str "23:59")) (.cons (.con (.int 1439)) .nil))) (.cons (.tup (.cons (.con (.str "24:00")) (.cons (.con .non) .nil))) (.cons (.tup (.cons (.con (.str "1:00:00")) (.cons (.con (.int 1440)) .nil))) (.cons (.tup (.cons (.con (.str "0:09:05")) (.cons (.con (.int 545)) .nil))) (.cons (.tup (.cons (.con (.str "1:9:30")) (.cons (.con (.int 2010)) .nil))) (.cons (.tup (.cons (.con (.str "000000009:30")) (.cons (.con (.int 570)) .nil))) (.cons (.tup (.cons (.con (.str "0000000009:30")) (.cons (.con .non) .nil))) (.cons (.tup (.cons (.con (.str "9:60")) (.cons (.con .non) .nil))) (.cons (.tup (.cons (.con (.str "9:030")) (.cons (.con .non) .nil))) (.cons (.tup (.cons (.con (.str "")) (.cons (.con .non) .nil))) .nil))))))))))))) γ S = .ok (.lst (rT1.map rM)) S := by
  simp only [q_lst, q_tup, q_cons, q_nil, q_cstr, q_cint, q_non, R.bind_ok, List.length_cons, List.length_nil, Nat.reduceAdd, R.when_true (show (2 : Nat) ≤ big by decide), R.when_true (show (12 : Nat) ≤ big by decide), w0, w1, w2, w3, w4, w5, w6, w7, w8, w9, w10, w11]
  rfl
theorem ev_rT2 (call : String → List M → Store → R M) (γ : Mi.Env) (S : Store) : ev call (.lst false (.cons (.tup (.cons (.con (.str ":30")) (.cons (.con .non) .nil))) (.cons (.tup (.cons (.con (.str "999999999:23:59")) (.cons (.con (.int 1439999999999)) .nil))) (.cons (.tup (.cons (.con (.str "1:24:00")) (.cons (.con .non) .nil))) (.cons (.tup (.cons (.con (.str "9 :30")) (.cons (.con .non) .nil))) (.cons (.tup (.cons (.con (.str "1:2:3:04")) (.cons (.con .non) .nil))) (.cons (.tup (.cons (.con (.str "9:-1")) (.cons (.con .non) .nil))) (.cons (.tup (.cons (.con (.str "-1:09:30")) (.cons (.con .non) .nil))) (.cons (.tup (.cons (.con (.str "9:3 0")) (.cons (.con .non) .nil))) (.cons (.tup (.cons (.con (.str "7")) (.cons (.con .non) .nil))) (.cons (.tup (.cons (.con (.str "09:30")) (.cons (.con (.int 570)) .nil))) .nil))))))))))) γ S = .ok (.lst (rT2.map rM)) S := by
  simp only [q_lst, q_tup, q_cons, q_nil, q_cstr, q_cint, q_non, R.bind_ok, List.length_cons, List.length_nil, Nat.reduceAdd, R.when_true (show (2 : Nat) ≤ big by decide), R.when_true (show (10 : Nat) ≤ big by decide), w12, w13, w14, w15, w16, w17, w18, w19, w20, w21]
  rfl
theorem ev_rL1 (call : String → List M → Store → R M) (γ : Mi.Env) (S : Store) : ev call (.lst false (.cons (.tup (.cons (.con (.str "0")) (.cons (.con (.int 0)) .nil))) (.cons (.tup (.cons (.con (.str "90")) (.cons (.con (.int 90)) .nil))) (.cons (.tup (.cons (.con (.str "1h30")) (.cons (.con (.int 90)) .nil))) (.cons (.tup (.cons (.con (.str "2h")) (.cons (.con (.int 120)) .nil))) (.cons (.tup (.cons (.con (.str "2h5")) (.cons (.con .non) .nil))) (.cons (.tup (.cons (.con (.str "2h60")) (.cons (.con .non) .nil))) (.cons (.tup (.cons (.con (.str "h")) (.cons (.con .non) .nil))) (.cons (.tup (.cons (.con (.str "h30")) (.cons (.con .non) .nil))) (.cons (.tup (.cons (.con (.str "0h00")) (.cons (.con (.int 0)) .nil))) (.cons (.tup (.cons (.con (.str "007")) (.cons (.con (.int 7)) .nil))) (.cons (.tup (.cons (.con (.str "1234567890")) (.cons (.con .non) .nil))) (.cons (.tup (.cons (.con (.str "2H")) (.cons (.con .non) .nil))) (.cons (.tup (.cons (.con (.str "1h05h")) (.cons (.con .non) .nil))) (.cons (.tup (.cons (.con (.str "")) (.cons (.con .non) .nil))) (.cons (.tup (.cons (.con (.str "2 h")) (.cons (.con .non) .nil))) .nil)))))))))))))))) γ S = .ok (.lst (rL1.map rM)) S := by
  simp only [q_lst, q_tup, q_cons, q_nil, q_cstr, q_cint, q_non, R.bind_ok, List.length_cons, List.length_nil, Nat.reduceAdd, R.when_true (show (2 : Nat) ≤ big by decide), R.when_true (show (15 : Nat) ≤ big by decide), w22, w23, w24, w25, w26, w27, w28, w29, w30, w31, w32, w33, w34, w11, w35]
  rfl
theorem ev_rL2 (call : String → List M → Store → R M) (γ : Mi.Env) (S : Store) : ev call (.lst false (.cons (.tup (.cons (.con (.str "123456789h59")) (.cons (.con (.int 7407407399)) .nil))) (.cons (.tup (.cons (.con (.str "1h+5")) (.cons (.con .non) .nil))) (.cons (.tup (.cons (.con (.str "00h59")) (.cons (.con (.int 59)) .nil))) .nil)))) γ S = .ok (.lst (rL2.map rM)) S := by
  simp only [q_lst, q_tup, q_cons, q_nil, q_cstr, q_cint, q_non, R.bind_ok, List.length_cons, List.length_nil, Nat.reduceAdd, R.when_true (show (2 : Nat) ≤ big by decide), R.when_true (show (3 : Nat) ≤ big by decide), w36, w37, w38]
  rfl
end K03

namespace K03
open PySem PySem.Spec L2 Mi Pg
/-! ### the law by hand -/
theorem due_time5 (k : Nat) (l : List Nat) (hl : l.length ≤ 900) (S : Store) : callM (evalFn Φ (k + 4)) true "_law_due_time" [tM l] S = .ok (dueM "time" (timeV l)) S := due_time_call (k + 2) l hl S
theorem due_len5 (k : Nat) (l : List Nat) (hl : l.length ≤ 900) (S : Store) : callM (evalFn Φ (k + 4)) true "_law_due_length" [tM l] S = .ok (dueM "length" (lenV l)) S := due_len_call (k + 2) l hl S
theorem ts0 : timeS 0 = [48, 58, 48, 48] := by decide +kernel
theorem ts1 : timeS 1439 = [50, 51, 58, 53, 57] := by decide +kernel
theorem ts2 : timeS 1440 = [49, 58, 48, 48, 58, 48, 48] := by decide +kernel
theorem ts3 : timeS 9999 = [54, 58, 50, 50, 58, 51, 57] := by decide +kernel
theorem ts4 : timeS 600 = [49, 48, 58, 48, 48] := by decide +kernel
theorem ls0 : lenS 0 = [48] := by decide +kernel
theorem ls1 : lenS 59 = [53, 57] := by decide +kernel
theorem ls2 : lenS 60 = [49, 104] := by decide +kernel
theorem ls3 : lenS 65 = [49, 104, 48, 53] := by decide +kernel
theorem ls4 : lenS 9999 = [49, 54, 54, 104, 51, 57] := by decide +kernel
theorem rv : timeV [57, 58, 48, 53] = some 545 := by decide +kernel
theorem lv : lenV [49, 104] = some 60 := by decide +kernel
abbrev finM : M := .tup [tM [48, 58, 48, 48], tM [50, 51, 58, 53, 57], tM [49, 58, 48, 48, 58, 48, 48], tM [54, 58, 50, 50, 58, 51, 57], tM [49, 48, 58, 48, 48], tM [48], tM [53, 57], tM [49, 104], tM [49, 104, 48, 53], tM [49, 54, 54, 104, 51, 57]]
theorem fin_dy : Dy finM = true ∧ cn finM ≤ 100000 := ⟨rfl, by simp [finM, cn, cns, tM]⟩
theorem lenT : rT1.length = 12 ∧ rT2.length = 10 ∧ rL1.length = 15 ∧ rL2.length = 3 := ⟨rfl, rfl, rfl, rfl⟩
theorem bT : (rT1.map rM).length + (rT2.map rM).length ≤ big := by
  rw [List.length_map, List.length_map, lenT.1, lenT.2.1]; decide
theorem bL : (rL1.map rM).length + (rL2.map rM).length ≤ big := by
  rw [List.length_map, List.length_map, lenT.2.2.1, lenT.2.2.2]; decide
theorem wtrue {α : Type} (x : R α) : R.when True x = x := R.when_true trivial x
theorem tM_def (l : List Nat) : M.str (sx l) = tM l := rfl
set_option maxHeartbeats 0 in
theorem hand_ok (k : Nat) : Wp (evalFn Φ (k + 5) "_law_hand" [] []) fun r _ => r = .bl true := by
  have hΦ : Φ "_law_hand" = some d__law_hand := by rfl
  refine wp_fn hΦ rfl ?_
  have eT1 := fun call γ S => ev_rT1 call γ S
  have eT2 := fun call γ S => ev_rT2 call γ S
  have eL1 := fun call γ S => ev_rL1 call γ S
  have eL2 := fun call γ S => ev_rL2 call γ S
  have bT := bT
  have bL := bL
  have oT := rT_ok
  have oL := rL_ok
  obtain ⟨A, hA⟩ : ∃ A, A = rT1 := ⟨_, rfl⟩
  obtain ⟨B, hB⟩ : ∃ A, A = rT2 := ⟨_, rfl⟩
  obtain ⟨C, hC⟩ : ∃ A, A = rL1 := ⟨_, rfl⟩
  obtain ⟨D, hD⟩ : ∃ A, A = rL2 := ⟨_, rfl⟩
  rw [← hA] at eT1 bT oT
  rw [← hB] at eT2 bT oT
  rw [← hC] at eL1 bL oL
  rw [← hD] at eL2 bL oL
  clear hA hB hC hD
  have p1 := fun (c0 c1 c2 c3 : Option M) (S : Store) (P : F → Store → Prop) hP => hand_loop k "time" "_law_due_time" (by decide +kernel) timeV (fun l hl S => heard_time k l hl S) (due_time5 k) (A ++ B) oT c0 c1 c2 c3 S (P := P) hP
  have p2 := fun (c0 c1 c2 c3 : Option M) (S : Store) (P : F → Store → Prop) hP => hand_loop k "length" "_law_due_length" (by decide +kernel) lenV (fun l hl S => heard_len k l hl S) (due_len5 k) (C ++ D) oL c0 c1 c2 c3 S (P := P) hP
  simp only [haB] at p1 p2
  have t0 : ∀ S, callM (evalFn Φ (k + 4)) true "time_text" [.int 0] S = .ok (tM [48, 58, 48, 48]) S := fun S => by rw [← ts0]; exact ptime_call (k + 2) 0 (by decide) S
  have t1 : ∀ S, callM (evalFn Φ (k + 4)) true "time_text" [.int 1439] S = .ok (tM [50, 51, 58, 53, 57]) S := fun S => by rw [← ts1]; exact ptime_call (k + 2) 1439 (by decide) S
  have t2 : ∀ S, callM (evalFn Φ (k + 4)) true "time_text" [.int 1440] S = .ok (tM [49, 58, 48, 48, 58, 48, 48]) S := fun S => by rw [← ts2]; exact ptime_call (k + 2) 1440 (by decide) S
  have t3 : ∀ S, callM (evalFn Φ (k + 4)) true "time_text" [.int 9999] S = .ok (tM [54, 58, 50, 50, 58, 51, 57]) S := fun S => by rw [← ts3]; exact ptime_call (k + 2) 9999 (by decide) S
  have t4 : ∀ S, callM (evalFn Φ (k + 4)) true "time_text" [.int 600] S = .ok (tM [49, 48, 58, 48, 48]) S := fun S => by rw [← ts4]; exact ptime_call (k + 2) 600 (by decide) S
  have l0 : ∀ S, callM (evalFn Φ (k + 4)) true "length_text" [.int 0] S = .ok (tM [48]) S := fun S => by rw [← ls0]; exact plen_call (k + 2) 0 (by decide) S
  have l1 : ∀ S, callM (evalFn Φ (k + 4)) true "length_text" [.int 59] S = .ok (tM [53, 57]) S := fun S => by rw [← ls1]; exact plen_call (k + 2) 59 (by decide) S
  have l2 : ∀ S, callM (evalFn Φ (k + 4)) true "length_text" [.int 60] S = .ok (tM [49, 104]) S := fun S => by rw [← ls2]; exact plen_call (k + 2) 60 (by decide) S
  have l3 : ∀ S, callM (evalFn Φ (k + 4)) true "length_text" [.int 65] S = .ok (tM [49, 104, 48, 53]) S := fun S => by rw [← ls3]; exact plen_call (k + 2) 65 (by decide) S
  have l4 : ∀ S, callM (evalFn Φ (k + 4)) true "length_text" [.int 9999] S = .ok (tM [49, 54, 54, 104, 51, 57]) S := fun S => by rw [← ls4]; exact plen_call (k + 2) 9999 (by decide) S
  have q1 : ∀ S, callM (evalFn Φ (k + 4)) true "_law_same" [finM, finM] S = .ok (.bl true) S := fun S => same_call (k + 3) S finM fin_dy.1 fin_dy.2
  have q2 : ∀ S, callM (evalFn Φ (k + 4)) true "_law_same" [.tup [.int 545, .int 60], .tup [.int 545, .int 60]] S = .ok (.bl true) S := fun S => same_call (k + 3) S (.tup [.int 545, .int 60]) rfl (by simp [cn, cns])
  have r1 : ∀ S, callM (evalFn Φ (k + 4)) true "read_time" [tM [57, 58, 48, 53]] S = .ok (.int 545) S := fun S => by rw [show k + 4 = (k + 1) + 3 from rfl, read_time_call (k + 1) _ (by decide) S, rv]; rfl
  have r2 : ∀ S, callM (evalFn Φ (k + 4)) true "read_length" [tM [49, 104]] S = .ok (.int 60) S := fun S => by rw [show k + 4 = (k + 1) + 3 from rfl, read_len_call (k + 1) _ (by decide) S, lv]; rfl
  have pl0 : ∀ m : M, place [0] [] [m] = [m] := fun _ => rfl
  have b2 : (2 : Nat) ≤ big := by decide
  have b10 : (10 : Nat) ≤ big := by decide
  simp only [d__law_hand, List.map_cons, List.map_nil, List.cons_append, List.nil_append, List.length_cons, List.length_nil, List.replicate, Nat.reduceAdd, Nat.reduceSub]
  rw [q_scons, wp_bind, q_set, eT1]
  simp only [R.bind_ok, wp_ok, nextM_nx, List.set_cons_succ, List.set_cons_zero]
  rw [q_scons, wp_bind, q_set, q_bin]
  simp only [q_var, varM_s, varM_0, R.bind_ok]
  rw [eT2]
  simp only [R.bind_ok, b_lst, ← List.map_append]
  rw [R.when_true bT]
  simp only [R.bind_ok, wp_ok, nextM_nx, List.set_cons_succ, List.set_cons_zero]
  rw [q_scons, wp_bind, q_for, q_Ival, q_var]
  simp only [varM_s, varM_0, R.bind_ok, seq_lst, R.of_some]
  refine p1 _ _ _ _ _ _ fun c2 c3 => ?_
  rw [nextM_nx, q_scons, wp_bind, q_set, eL1]
  simp only [R.bind_ok, wp_ok, nextM_nx, List.set_cons_succ, List.set_cons_zero]
  rw [q_scons, wp_bind, q_set, q_bin]
  simp only [q_var, varM_s, varM_0, R.bind_ok]
  rw [eL2]
  simp only [R.bind_ok, b_lst, ← List.map_append]
  rw [R.when_true bL]
  simp only [R.bind_ok, wp_ok, nextM_nx, List.set_cons_succ, List.set_cons_zero]
  rw [q_scons, wp_bind, q_for, q_Ival, q_var]
  simp only [varM_s, varM_0, R.bind_ok, seq_lst, R.of_some]
  refine p2 _ _ _ _ _ _ fun c2' c3' => ?_
  rw [nextM_nx, q_scons, wp_bind, q_set, q_tup]
  simp only [q_cons, q_nil, q_call, q_callk, q_cint, R.bind_ok, t0, t1, t2, t3, t4, l0, l1, l2, l3, l4, Cs.len, List.length_nil, List.length_cons, Nat.reduceAdd, pl0, R.when_true (show (0 : Nat) = 0 ∧ (1 : Nat) = 1 from ⟨rfl, rfl⟩), wtrue, R.when_true b10, wp_ok, nextM_nx, List.set_cons_succ, List.set_cons_zero, and_self]
  rw [q_scons, wp_bind, q_ifS, q_Tnot, q_Tv]
  simp only [q_cons, q_nil, q_call, q_tup, q_cstr, q_var, varM_s, varM_0, R.bind_ok, w0, w2, w4, w43, w44, w22, w40, w41, w39, w42, tM_def, List.length_nil, List.length_cons, Nat.reduceAdd, R.when_true b10, q1, t_bl, R.of_some, Bool.not_true, Bool.false_eq_true, if_false, q_snil, wp_ok, nextM_nx]
  rw [q_scons, wp_bind, q_ret]
  simp only [q_cons, q_nil, q_call, q_callk, q_tup, q_cstr, q_cint, R.bind_ok, w45, w41, tM_def, r1, r2, Cs.len, List.length_nil, List.length_cons, Nat.reduceAdd, pl0, R.when_true (show (0 : Nat) = 0 ∧ (1 : Nat) = 1 from ⟨rfl, rfl⟩), wtrue, R.when_true b2, q2, wp_ok, nextM_ret, fin_ret, and_self]
theorem hand_call (k : Nat) (S : Store) : callM (evalFn Φ (k + 5)) true "_law_hand" [] S = .ok (.bl true) S := by
  obtain ⟨r, S', e, rfl⟩ := (hand_ok k).ex
  exact pcall (by simp [M.plain.go]) e rfl
end K03

namespace K03
open PySem PySem.Spec L2 Mi Pg
/-! ### the brook is made -/
def P1 : Int := 10 ^ (60 : Int).toNat
def P2 : Int := P1 * P1
def P3 : Int := P2 * P1
def P4 : Int := P3 * P1
def P5 : Int := P4 * P1
def P6 : Int := P5 * P1
def P7 : Int := P6 * P1
theorem ep1 (S : Store) : binop false .pow (.int 10) (.int 60) S = .ok (.int P1) S := R.when_true (c := 0 ≤ (60 : Int) ∧ (60 : Int).natAbs ≤ 1000000 ∧ (10 : Int).natAbs < 2 ^ 64) (by decide +kernel) _
theorem ep2 (S : Store) : binop false .mul (.int P1) (.int P1) S = .ok (.int P2) S := R.when_true (c := CMulOk P1 P1) (.inr ⟨by decide +kernel, by decide +kernel⟩) _
theorem ep3 (S : Store) : binop false .mul (.int P2) (.int P1) S = .ok (.int P3) S := R.when_true (c := CMulOk P2 P1) (.inr ⟨by decide +kernel, by decide +kernel⟩) _
theorem ep4 (S : Store) : binop false .mul (.int P3) (.int P1) S = .ok (.int P4) S := R.when_true (c := CMulOk P3 P1) (.inr ⟨by decide +kernel, by decide +kernel⟩) _
theorem ep5 (S : Store) : binop false .mul (.int P4) (.int P1) S = .ok (.int P5) S := R.when_true (c := CMulOk P4 P1) (.inr ⟨by decide +kernel, by decide +kernel⟩) _
theorem ep6 (S : Store) : binop false .mul (.int P5) (.int P1) S = .ok (.int P6) S := R.when_true (c := CMulOk P5 P1) (.inr ⟨by decide +kernel, by decide +kernel⟩) _
theorem ep7 (S : Store) : binop false .mul (.int P6) (.int P1) S = .ok (.int P7) S := R.when_true (c := CMulOk P6 P1) (.inr ⟨by decide +kernel, by decide +kernel⟩) _
theorem p7 : 0 < P7 := by decide +kernel
theorem lit18 : ∃ E : Int, ∀ S, binop false .pow (.int 10) (.int 18) S = .ok (.int E) S := ⟨10 ^ (18 : Int).toNat, fun S => R.when_true (c := 0 ≤ (18 : Int) ∧ (18 : Int).natAbs ≤ 1000000 ∧ (10 : Int).natAbs < 2 ^ 64) (by decide +kernel) _⟩
theorem s58 (ns : List Int) (S : Store) : slop false (.scr ns) none (some 58) S = .ok (.lst (im (ns.take 58))) S := by
  have : seqOf S (.scr ns) = some (im ns) := rfl
  simp only [slop, this, R.of_some, mkL]
  rw [if_neg Bool.false_ne_true]
  congr 2
  unfold cutM
  rw [show (some 58 : Option Int) = some ((58 : Nat) : Int) from rfl, HT.sIx_nat, HT.sIx_none]
  simp [im, List.map_take]
def BrI (ns : List Int) (i : Nat) (γ : Mi.Env) (S : Store) : Prop := ∃ (b : Int) (gs : List Int) (c3 c4 : Option M), γ = [some (.scr ns), some (.ref 0), some (.int b), c3, c4] ∧ S = [.lst (im gs)] ∧ gs.length ≤ i
set_option maxHeartbeats 0 in
theorem tower_ok (k : Nat) (ns : List Int) (hn : ns.length ≤ 63) {P : M → Store → Prop} (hP : ∀ S', Rn S' [] → P (.ref 2) S') : Wp (evalFn Φ (k + 1) "_law_tower" [.scr ns] []) P := by
  have hΦ : Φ "_law_tower" = some d__law_tower := by rfl
  refine wp_fn hΦ rfl ?_
  obtain ⟨E, eE⟩ := lit18
  simp [d__law_tower, s58, mkL, wp_when, big]
  generalize hm : ns.take 58 = ms
  have hml : ms.length ≤ 63 := by rw [← hm]; simp; omega
  unfold forRun
  refine wp_for (BrI ns) _ (by rintro i γ S _ _; rfl) ?_ ?_ _ _ ⟨523031, [], none, none, rfl, rfl, by simp⟩
  · rintro i x γ S hx ⟨b, gs, c3, c4, rfl, rfl, hd⟩
    unfold im at hx
    rw [List.getElem?_map] at hx
    obtain ⟨w, hw', rfl⟩ := Option.map_eq_some_iff.mp hx
    have hi : i < ms.length := (List.getElem?_eq_some_iff.mp hw').1
    have elof : lstOf [O.lst (im gs)] (.ref 0) = some (im gs) := rfl
    have hbg : gs.length < big := by unfold big; omega
    have eabs : ∀ (z : Int) S, biop .abs [.int z] S = .ok (.int (if z < 0 then -z else z)) S := fun _ _ => rfl
    have bib : ∀ (b : Bool) S, biop .int [.bl b] S = .ok (.int (if b then 1 else 0)) S := fun _ _ => rfl
    rw [bt_nm, R.of_some]
    simp only [List.set_cons_succ, List.set_cons_zero]
    rw [q_scons, wp_bind, q_set]
    obtain ⟨sz, hsz⟩ : ∃ sz : Int, (if w < 0 then -w else w) % P7 = sz := ⟨_, rfl⟩
    simp only [q_bin, q_bi, q_cons, q_var, varM_s, varM_0, q_cint, q_nil, R.bind_ok, bi_int, eabs, ep1, ep2, ep3, ep4, ep5, ep6, ep7, b_mod, R.when_true p7, hsz, wp_ok, nextM_nx, List.set_cons_succ, List.set_cons_zero]
    rw [q_scons, wp_bind, q_set]
    simp only [q_bin, q_bi, q_cmp, q_cons, q_var, varM_s, varM_0, q_cint, q_nil, R.bind_ok, c_lt, bib, b_mul, b_add, b_mod, R.when_true (show (0 : Int) < 1000076369 by decide), R.when_true (show CMulOk b 90863 from cmul_r (by decide) (by decide)), bi_int, R.when_true (show (0 : Int) < 2147478089 by decide), wp_ok, nextM_nx, List.set_cons_succ, List.set_cons_zero]
    rw [q_scons, wp_bind, q_ifS, q_Tv, q_cmp]
    simp only [q_bin, q_var, varM_s, varM_0, q_cint, R.bind_ok, eE, c_ge, t_bl, R.of_some]
    by_cases hz : E ≤ sz
    · simp only [hz, decide_true, if_true]
      rw [q_scons, wp_bind, q_exp, q_meth, q_var]
      simp only [varM_s, varM_0, R.bind_ok, elof, R.of_some, q_cons, q_var, q_nil, meop, List.getElem?_cons_zero, len_im, R.when_true hbg, wp_ok, nextM_nx, q_snil]
      refine ⟨_, gs ++ [sz], _, _, rfl, ?_, by simp; omega⟩
      simp [im]
    · simp only [hz, decide_false, Bool.false_eq_true, if_false, q_snil, wp_ok, nextM_nx]
      exact ⟨_, gs, _, _, rfl, rfl, by omega⟩
  · rintro γ S ⟨b, gs, c3, c4, rfl, rfl, hd⟩
    have elof : lstOf [O.lst (im gs)] (.ref 0) = some (im gs) := rfl
    simp [wp_when, big, mkL, seqOf]
    rw [elof, R.of_some, wp_ok]
    refine hP _ ⟨_, (List.append_nil _).symm, rfl, b, 0, gs.reverse, im gs, ?_⟩
    simp [St, im]
end K03

namespace K03
open PySem PySem.Spec L2 Mi Pg
set_option maxHeartbeats 0 in
theorem mainlaw (ns : List Int) (hn : ns.length ≤ 63) : Wp (evalFn Φ 40 "law" [.scr ns] []) fun r _ => r = .bl true := by
  have hΦ : Φ "law" = some d_law := by rfl
  refine wp_fn (k := 39) hΦ rfl ?_
  have hr4 : RgOk' 0 6 := by decide
  have hc : ∀ S, callM (evalFn Φ 39) true "_law_hand" [] S = .ok (.bl true) S := hand_call 34
  simp only [d_law, List.map_cons, List.map_nil, List.cons_append, List.nil_append, List.length_cons, List.length_nil, List.replicate, Nat.reduceAdd, Nat.reduceSub]
  rw [q_scons, wp_bind, q_set]
  simp only [q_call, q_cons, q_nil, q_var, varM_s, varM_0, R.bind_ok, callM_false, wp_bind]
  refine tower_ok 38 ns hn fun S0 r0 => ?_
  simp only [wp_ok, nextM_nx, List.set_cons_succ, List.set_cons_zero]
  rw [q_scons, wp_bind, q_ifS, q_Tnot, q_Tv]
  simp only [q_call, q_nil, R.bind_ok, hc, t_bl, R.of_some, Bool.not_true, Bool.false_eq_true, if_false, q_snil, wp_ok, nextM_nx]
  rw [q_scons, wp_bind, q_for, q_Ir1]
  simp only [q_cint, R.bind_ok, intM_int, R.when_true hr4]
  unfold forRun
  refine wp_for (fun i γ S => ∃ (c2 : Option M), γ = [some (.scr ns), some (.ref 2), c2] ∧ Rn S []) _ (by rintro i γ S _ _; rfl) ?_ ?_ _ _ ⟨none, rfl, r0⟩
  · rintro i x γ S hx ⟨c2, rfl, r⟩
    rw [bt_nm, R.of_some]
    simp only [List.set_cons_succ, List.set_cons_zero]
    rw [q_scons, wp_bind, q_ifS, q_Tnot, q_Tv]
    simp only [q_call, q_cons, q_nil, q_var, varM_s, varM_0, R.bind_ok, callM_false, wp_bind]
    refine asked_ok 34 r fun S2 r2 => ?_
    simp only [wp_ok, t_bl, R.of_some, Bool.not_true, Bool.false_eq_true, if_false, q_snil, nextM_nx]
    exact ⟨_, rfl, r2⟩
  · rintro γ S ⟨c2, rfl, r⟩
    rw [nextM_nx, q_scons, wp_bind, q_ret]
    simp only [q_cbl, R.bind_ok, wp_ok, nextM_ret, fin_ret]
theorem plain : ∀ ns : List Int, ns.length ≤ 63 → ∃ S, evalFn (tabF Ψ) 40 "law" [.scr ns] [] = .ok (.bl true) S := fun ns hn => by
  obtain ⟨r, S, e, rfl⟩ := (mainlaw ns hn).ex
  exact ⟨S, e⟩
end K03

namespace Mi
open PySem PySem.Spec L2 PyProof.Rows Mx NdefX
/-! ### an own exception class as it is written -/
theorem cx_no {P : Program} {w : World} {l : List PySem.Env} {H : Hp} {s s' : Shared} {e : Value} (h : L2.CX P w l H s (fun _ _ _ => False) e s') : False := by
  obtain ⟨_, _, _, _, _, _, _, _, _, _, _, _, z⟩ := h
  exact z
/-- the facts of the class at C, its __init__ at fI (its text st) -/
structure XK1 (P : Program) (K : PySem.W.Frag) (mg : Str → Option Value) (c : String) (q : Str) (st : Stmt) (C fI : Addr) (cc cda : Addr) (fd : FuncData) : Prop where
  hm : mg (Str.ofString c) = some (.ref C)
  J : IniK P K mg C fI ⟨"__init__", q, defArgs st, defBody st, defScope st, [(("__class__" : Str), cc)], cda⟩ fd
  iC : PySem.W.findIn K (.ref C) "__init__" = some (some (.ref fI))
  tI : PySem.W.typeIn K (.ref fI) = some (.type "function")
  xf : XfC K C
  ct : MxI.ClsT K C
section
variable [Tabs]
variable {P : Program} {w : World} {K : PySem.W.Frag} {mg : Str → Option Value} {base h : Heap} {c f g : String} {q : Str} {st : Stmt} {C fI cc cda : Addr} {fd : FuncData}
theorem xk_mk {nm q0 : Str} {Nn : Addr} {bs bm : List Value} {sn : List Str} {sub : List Value} {ab : Bool} {col : Option Bool} {dd : Option Addr} {k0 k1 k2 k3 k5 : Option Value} {oc kV doc pm ct ccl cl : Value} {an od cdd cld : Option Addr} {osl ccs csl : Array (Option Value)} {vs : Array Value} {fl : Str} {tf : Tok}
    (KX : K.In h) (G : h.Ns mainGlobals mg) (x1 : PySem.W.nsIn K mainGlobals (Str.ofString c) = some (some (.ref C))) (x2 : K.lookup C = some (excClassObj nm q0 C Nn bs bm true sn sub ab col dd k0 k1 k2 k3 k5 "ValueError.__new__")) (x3 : PySem.HandSPX.refsVE bm = true)
    (x4 : PySem.W.findIn K (.ref C) "__setattr__" = some (some (.builtin "object.__setattr__"))) (x5 : PySem.W.subIn K (.ref C) (.type "BaseException") = some true) (x6 : PySem.W.typeIn K (.ref C) = some (.type "type")) (x7 : PySem.W.keepIn K (.ref C) = true)
    (x8 : PySem.W.findIn K (.ref C) "__init__" = some (some (.ref fI))) (x9 : PySem.W.typeIn K (.ref fI) = some (.type "function"))
    (y1 : K.lookup fI = some ⟨oc, od, .func (PySem.W.fnX "__init__" q (defArgs st) (defBody st) (defScope st) [(("__class__" : Str), cc)] .none kV doc pm an (.ref cda) ct), osl⟩) (y2 : PySem.W.codeIn K (.ref cda) q = true)
    (y3 : K.lookup cda = some ⟨ccl, cdd, .fields vs, ccs⟩) (y4 : vs[2]? = some (.str fl tf)) (y5 : ((P.main.file : Str) == fl) = true) (y6 : K.lookup cc = some ⟨cl, cld, .cell (some (.ref C)), csl⟩)
    (y7 : PySem.W.nsIn K mainGlobals (Str.ofString "super") = some none) (y8 : PySem.W.nsIn K cStatics "thirdparty.any" = some none) (y9 : PySem.W.ks_superIn K C C "__init__" = some (some (.builtin vInit))) (z1 : (P.main.scope.names.lookup ("super" : Str)).isSome = false)
    (z2 : PySem.W.findIn K (.ref C) "__getattribute__" = some (some (.builtin "BaseException.__getattribute__"))) (z3 : PySem.W.findIn K (.ref C) "__getattr__" = some none) (z4 : PySem.W.hasDictIn K C = true) (z5 : PySem.W.findIn K (.ref C) "__class__" = some (some (.builtin "object.__class__"))) (z6 : PySem.W.specialIn K (.builtin "object.__class__") "__get__" = some (some (.builtin "getset_descriptor.__get__"))) (z7 : PySem.W.takesIn K (.builtin "object.__class__") = some true) (z8 : PySem.W.mroIn K C (.type "object") = some true) :
    XK1 P K mg c q st C fI cc cda (PySem.W.fnX "__init__" q (defArgs st) (defBody st) (defScope st) [(("__class__" : Str), cc)] .none kV doc pm an (.ref cda) ct) :=
  ⟨PySem.W.mg_of KX G x1, ⟨⟨⟨nm, q0, Nn, bs, bm, sn, sub, ab, col, dd, k0, k1, k2, k3, k5, x2, x3⟩, x4, x5, x6, x7⟩, ⟨_, _, _, _, _, _, rfl⟩, ⟨_, _, _, y1⟩, y2, ⟨_, _, _, _, _, _, y3, y4, y5⟩, ⟨_, _, _, _, rfl, y6⟩, PySem.W.mg_none_of KX G y7, y8, y9, z1⟩, x8, x9, ⟨z2, z3, x5, z4⟩, ⟨z2, z3, x5, z4, z5, z6, z7, z8⟩⟩
theorem xok1 {p0 p1 p2 p3 p4 a1 q1 q2 q3 q4 : Pos} {ar : Arg} (X : XK1 P K mg c q st C fI cc cda fd) (eb : defBody st = [sup0 p0 p1 p2 p3 p4 [.Name (Str.ofString f) a1], put0 (Str.ofString f) q1 q2 q3 q4])
    (hev : supEval p0 p1 p2 p3 [.Name (Str.ofString f) a1]) (hks : (defScope st).names.lookup ("super" : Str) = some .globalImplicit) (hpar : ((defArgs st).posonlyargs ++ (defArgs st).args).head? = some ar) (har : ar.arg = "self")
    (S : nscB ["self", Str.ofString f, "__class__"] ["self", Str.ofString f] ["__class__"] (defScope st) = true) (d : plainN (Str.ofString f) = true) (hno : PySem.W.findIn K (.ref C) (Str.ofString f) = some none)
    (hb : ∀ us : List Value, us.length = 2 → bindArgs fd ⟨us, []⟩ = pure ((["self", Str.ofString f] : List Str).zip us)) : XOk P w K mg base (L2.CX P w) c [f] :=
  ⟨⟨C, fI, fd, X.hm, X.J.T, X.iC, X.tI, ex1_ok X.J eb hev hks hpar har (nscope_by S) (plainN_of d).1 (plainN_of d).2 hno, .all hb, X.xf, (fun f' hf => by rw [List.mem_singleton.mp hf]; exact hno), X.ct⟩, by simp, by simp, by simp⟩
theorem xok2 {p0 p1 p2 p3 p4 a1 a2 q1 q2 q3 q4 r1 r2 r3 r4 : Pos} {ar : Arg} (X : XK1 P K mg c q st C fI cc cda fd) (eb : defBody st = [sup0 p0 p1 p2 p3 p4 [.Name (Str.ofString f) a1, .Name (Str.ofString g) a2], put0 (Str.ofString f) q1 q2 q3 q4, put0 (Str.ofString g) r1 r2 r3 r4])
    (hev : supEval p0 p1 p2 p3 [.Name (Str.ofString f) a1, .Name (Str.ofString g) a2]) (hks : (defScope st).names.lookup ("super" : Str) = some .globalImplicit) (hpar : ((defArgs st).posonlyargs ++ (defArgs st).args).head? = some ar) (har : ar.arg = "self")
    (S : nscB ["self", Str.ofString f, Str.ofString g, "__class__"] ["self", Str.ofString f, Str.ofString g] ["__class__"] (defScope st) = true) (d : plainN (Str.ofString f) = true) (d' : plainN (Str.ofString g) = true) (hno : PySem.W.findIn K (.ref C) (Str.ofString f) = some none) (hng : PySem.W.findIn K (.ref C) (Str.ofString g) = some none)
    (hfg : Str.ofString f ≠ Str.ofString g) (hb : ∀ us : List Value, us.length = 3 → bindArgs fd ⟨us, []⟩ = pure ((["self", Str.ofString f, Str.ofString g] : List Str).zip us)) : XOk P w K mg base (L2.CX P w) c [f, g] :=
  ⟨⟨C, fI, fd, X.hm, X.J.T, X.iC, X.tI, ex2_ok X.J eb hev hks hpar har (nscope_by S) (plainN_of d).1 (plainN_of d).2 (plainN_of d').1 (plainN_of d').2 hno hng, .all hb, X.xf, (fun f' hf => by
    rcases List.mem_cons.mp hf with e | hf
    · rw [e]; exact hno
    · rw [List.mem_singleton.mp hf]; exact hng), X.ct⟩, by simp [hfg], by simp, by simp⟩
end
end Mi

/-! the end of a law whose defs hold generator expressions: every def's table is empty at the start -/
namespace Mi
open PySem PySem.Spec PyProof.Rows L2 LamX
/-- the tables of all defs of the program are empty -/
def AllTab (q : Program) (K : PySem.W.Frag) (mg : Str → Option Value) (h : Heap) : Prop := ∀ nm : Str, ((recsOf q).any fun e => e.name == nm) = true → ∀ f : Addr, mg nm = some (.ref f) → OwnTab K f h
theorem walk_all {l : PySem.W.OpenLaw} {n k : Nat} {q : Program} {loose : List Str} {XP : (Str → Option Value) → Heap → Prop} {YP : World → Heap → Prop} {d : DefRec} {K : Params → PySem.W.Frag} {CX : World → CXT} {x : Str}
    (hn : l.most = some n) (hn2 : n ≤ sizeLine) (hdf : d.params.defaults = []) (hr : Room k callerA) (hY : ∀ (w : World) (h : Heap), YP w h → (K w.params).In h)
    (F : ∀ (w : World) (mg : Str → Option Value) (fa : Addr) (h : Heap), YP w h → (K w.params).In h → h.Ns mainGlobals mg → mg d.name = some (.ref fa) → AllTab q (K w.params) mg h → LawAtS l w (K w.params) (CX w) k n x mg fa h)
    (hCX : ∀ (w : World) (H : Hp) (s : Shared) (e : Value) (s' : Shared), CX w [] H s (fun _ _ _ => False) e s' → False) :
    PySem.W.WalkO q loose XP YP l.row.toRowW d [] (fun f vs => PySem.call f vs) := by
  refine Att.attach_callB hn hdf fun w s₀ s₁ mg mb fa o pm cd doc a vs ns G Y ho hd hcd hmg hobj hints hlen hbits hg => ?_
  have KX := hY w _ Y
  have own : AllTab q (K w.params) mg s₁.heap := fun nm hrec f hf c P o1 fd1 e dd vs1 sl k1 k2 k3 k4 k5 => by
    obtain ⟨dL, hm, hn1⟩ := List.any_eq_true.mp hrec
    have hn2 : dL.name = nm := beq_iff_eq.mp hn1
    obtain ⟨a', o', fd', c', P', h1, h2, h3, h4, h5, h6⟩ := G.T.tab dL hm
    rw [hn2, hf] at h1
    cases h1
    have g1 := KX _ _ k1
    rw [g1] at h2
    cases h2
    rw [k2] at h3
    cases h3
    rw [k3] at h4
    cases h4
    obtain ⟨⟨oc, vc, e1, _, e3, e4⟩, hP⟩ := h6
    have g2 := KX _ _ k4
    rw [g2] at e1
    cases e1
    cases e3
    rw [k5] at e4
    cases e4
    exact hP
  obtain ⟨fd, cs, sp, hT, nT, C, hb, hsp, hF⟩ := F w mg fa _ Y KX G.T.g hmg own
  exact law_callTs KX G.T.g G.T.b G.T.builtins G.T.nolimit hg hT nT C G.T.bmain hobj hints (Nat.le_trans hlen hn2) hr hF hb (fun H hH hS => hsp H a ns hlen hbits hH hS) fun H e s' => hCX w H s₁ e s'
/-- a def with a generator expression: its code object, its table -/
structure GxA (K : PySem.W.Frag) (f c P : Addr) : Prop where
  ex : ∃ (o : Obj) (fd : FuncData) (e : Value) (dd : Option Addr) (vs : Array Value) (sl : Array (Option Value)), K.lookup f = some o ∧ o.data = .func fd ∧ fd.code = .ref c ∧ K.lookup c = some ⟨e, dd, .fields vs, sl⟩ ∧ vs[11]? = some (.ref P)
  hd : PySem.W.codeHdIn K c P = true
  no : K.lookup P = none
theorem GxA.tbl {K : PySem.W.Frag} {f c P : Addr} {h : Heap} (g : GxA K f c P) (o : OwnTab K f h) : h.get? P = some { cls := .none, data := .fields #[] } := by
  obtain ⟨ob, fd, e, dd, vs, sl, h1, h2, h3, h4, h5⟩ := g.ex
  exact o c P ob fd e dd vs sl h1 h2 h3 h4 h5
theorem gx_tab {base : Heap} {mg : Str → Option Value} {c P : Addr} (t : LamX.TabB base mg c P) : GxR.TabB base mg c P := ⟨t.code, t.bm, t.gP⟩
end Mi

namespace K03
open PySem PySem.Spec L2 Mi
/-! ### where the defs stand (printed by gen_end.py) -/
section
open PyProof.Rows
theorem at_are_figures {K : PySem.W.Frag} {mg : Str → Option Value} {h : Heap} (KX : K.In h) (G : h.Ns mainGlobals mg) {a : Addr} {oc kV dc pm cd ct : Value} {od an : Option Addr} {sl : Array (Option Value)} (a1 : PySem.W.nsIn K mainGlobals (Str.ofString "are_figures") = some (some (.ref a)))
    (l1 : K.lookup a = some ⟨oc, od, .func (PySem.W.fnOf (Str.ofString "are_figures") (Str.ofString "are_figures") (defArgs t_are_figures.st) (defBody t_are_figures.st) (defScope t_are_figures.st) .none kV dc pm an cd ct), sl⟩) (c1 : PySem.W.codeIn K cd (Str.ofString "are_figures") = true) (k1 : PySem.W.keepIn K (.ref a) = true) : At K mg "are_figures" t_are_figures a (PySem.W.fnOf (Str.ofString "are_figures") (Str.ofString "are_figures") (defArgs t_are_figures.st) (defBody t_are_figures.st) (defScope t_are_figures.st) .none kV dc pm an cd ct) :=
  at_mk KX G a1 l1 c1 k1 (fun _ _ _ _ _ _ us hl => match us, hl with | [_], _ => rfl) (fun _ _ _ _ _ _ n qs hm => nomatch (show (n, qs) ∈ ([] : List (Nat × List Nat)) from hm))
theorem at_two_figures {K : PySem.W.Frag} {mg : Str → Option Value} {h : Heap} (KX : K.In h) (G : h.Ns mainGlobals mg) {a : Addr} {oc kV dc pm cd ct : Value} {od an : Option Addr} {sl : Array (Option Value)} (a1 : PySem.W.nsIn K mainGlobals (Str.ofString "two_figures") = some (some (.ref a)))
    (l1 : K.lookup a = some ⟨oc, od, .func (PySem.W.fnOf (Str.ofString "two_figures") (Str.ofString "two_figures") (defArgs t_two_figures.st) (defBody t_two_figures.st) (defScope t_two_figures.st) .none kV dc pm an cd ct), sl⟩) (c1 : PySem.W.codeIn K cd (Str.ofString "two_figures") = true) (k1 : PySem.W.keepIn K (.ref a) = true) : At K mg "two_figures" t_two_figures a (PySem.W.fnOf (Str.ofString "two_figures") (Str.ofString "two_figures") (defArgs t_two_figures.st) (defBody t_two_figures.st) (defScope t_two_figures.st) .none kV dc pm an cd ct) :=
  at_mk KX G a1 l1 c1 k1 (fun _ _ _ _ _ _ us hl => match us, hl with | [_], _ => rfl) (fun _ _ _ _ _ _ n qs hm => nomatch (show (n, qs) ∈ ([] : List (Nat × List Nat)) from hm))
theorem at_time_text {K : PySem.W.Frag} {mg : Str → Option Value} {h : Heap} (KX : K.In h) (G : h.Ns mainGlobals mg) {a : Addr} {oc kV dc pm cd ct : Value} {od an : Option Addr} {sl : Array (Option Value)} (a1 : PySem.W.nsIn K mainGlobals (Str.ofString "time_text") = some (some (.ref a)))
    (l1 : K.lookup a = some ⟨oc, od, .func (PySem.W.fnOf (Str.ofString "time_text") (Str.ofString "time_text") (defArgs t_time_text.st) (defBody t_time_text.st) (defScope t_time_text.st) .none kV dc pm an cd ct), sl⟩) (c1 : PySem.W.codeIn K cd (Str.ofString "time_text") = true) (k1 : PySem.W.keepIn K (.ref a) = true) : At K mg "time_text" t_time_text a (PySem.W.fnOf (Str.ofString "time_text") (Str.ofString "time_text") (defArgs t_time_text.st) (defBody t_time_text.st) (defScope t_time_text.st) .none kV dc pm an cd ct) :=
  at_mk KX G a1 l1 c1 k1 (fun _ _ _ _ _ _ us hl => match us, hl with | [_], _ => rfl) (fun _ _ _ _ _ _ n qs hm => by
    have hm : (n, qs) ∈ ([(0, [0])] : List (Nat × List Nat)) := hm
    rcases List.mem_cons.mp hm with e | hm
    · obtain ⟨rfl, rfl⟩ := Prod.mk.inj e
      exact kb_mk (by decide) fun us ws h1 h2 => match us, ws, h1, h2 with | [], [_], _, _ => rfl
    exact nomatch hm)
theorem at_told_time {K : PySem.W.Frag} {mg : Str → Option Value} {h : Heap} (KX : K.In h) (G : h.Ns mainGlobals mg) {a : Addr} {oc kV dc pm cd ct : Value} {od an : Option Addr} {sl : Array (Option Value)} (a1 : PySem.W.nsIn K mainGlobals (Str.ofString "told_time") = some (some (.ref a)))
    (l1 : K.lookup a = some ⟨oc, od, .func (PySem.W.fnOf (Str.ofString "told_time") (Str.ofString "told_time") (defArgs t_told_time.st) (defBody t_told_time.st) (defScope t_told_time.st) .none kV dc pm an cd ct), sl⟩) (c1 : PySem.W.codeIn K cd (Str.ofString "told_time") = true) (k1 : PySem.W.keepIn K (.ref a) = true) : At K mg "told_time" t_told_time a (PySem.W.fnOf (Str.ofString "told_time") (Str.ofString "told_time") (defArgs t_told_time.st) (defBody t_told_time.st) (defScope t_told_time.st) .none kV dc pm an cd ct) :=
  at_mk KX G a1 l1 c1 k1 (fun _ _ _ _ _ _ us hl => match us, hl with | [_], _ => rfl) (fun _ _ _ _ _ _ n qs hm => nomatch (show (n, qs) ∈ ([] : List (Nat × List Nat)) from hm))
theorem at_read_time {K : PySem.W.Frag} {mg : Str → Option Value} {h : Heap} (KX : K.In h) (G : h.Ns mainGlobals mg) {a : Addr} {oc kV dc pm cd ct : Value} {od an : Option Addr} {sl : Array (Option Value)} (a1 : PySem.W.nsIn K mainGlobals (Str.ofString "read_time") = some (some (.ref a)))
    (l1 : K.lookup a = some ⟨oc, od, .func (PySem.W.fnOf (Str.ofString "read_time") (Str.ofString "read_time") (defArgs t_read_time.st) (defBody t_read_time.st) (defScope t_read_time.st) .none kV dc pm an cd ct), sl⟩) (c1 : PySem.W.codeIn K cd (Str.ofString "read_time") = true) (k1 : PySem.W.keepIn K (.ref a) = true) : At K mg "read_time" t_read_time a (PySem.W.fnOf (Str.ofString "read_time") (Str.ofString "read_time") (defArgs t_read_time.st) (defBody t_read_time.st) (defScope t_read_time.st) .none kV dc pm an cd ct) :=
  at_mk KX G a1 l1 c1 k1 (fun _ _ _ _ _ _ us hl => match us, hl with | [_], _ => rfl) (fun _ _ _ _ _ _ n qs hm => by
    have hm : (n, qs) ∈ ([(0, [0])] : List (Nat × List Nat)) := hm
    rcases List.mem_cons.mp hm with e | hm
    · obtain ⟨rfl, rfl⟩ := Prod.mk.inj e
      exact kb_mk (by decide) fun us ws h1 h2 => match us, ws, h1, h2 with | [], [_], _, _ => rfl
    exact nomatch hm)
theorem at_length_text {K : PySem.W.Frag} {mg : Str → Option Value} {h : Heap} (KX : K.In h) (G : h.Ns mainGlobals mg) {a : Addr} {oc kV dc pm cd ct : Value} {od an : Option Addr} {sl : Array (Option Value)} (a1 : PySem.W.nsIn K mainGlobals (Str.ofString "length_text") = some (some (.ref a)))
    (l1 : K.lookup a = some ⟨oc, od, .func (PySem.W.fnOf (Str.ofString "length_text") (Str.ofString "length_text") (defArgs t_length_text.st) (defBody t_length_text.st) (defScope t_length_text.st) .none kV dc pm an cd ct), sl⟩) (c1 : PySem.W.codeIn K cd (Str.ofString "length_text") = true) (k1 : PySem.W.keepIn K (.ref a) = true) : At K mg "length_text" t_length_text a (PySem.W.fnOf (Str.ofString "length_text") (Str.ofString "length_text") (defArgs t_length_text.st) (defBody t_length_text.st) (defScope t_length_text.st) .none kV dc pm an cd ct) :=
  at_mk KX G a1 l1 c1 k1 (fun _ _ _ _ _ _ us hl => match us, hl with | [_], _ => rfl) (fun _ _ _ _ _ _ n qs hm => by
    have hm : (n, qs) ∈ ([(0, [0])] : List (Nat × List Nat)) := hm
    rcases List.mem_cons.mp hm with e | hm
    · obtain ⟨rfl, rfl⟩ := Prod.mk.inj e
      exact kb_mk (by decide) fun us ws h1 h2 => match us, ws, h1, h2 with | [], [_], _, _ => rfl
    exact nomatch hm)
theorem at_told_length {K : PySem.W.Frag} {mg : Str → Option Value} {h : Heap} (KX : K.In h) (G : h.Ns mainGlobals mg) {a : Addr} {oc kV dc pm cd ct : Value} {od an : Option Addr} {sl : Array (Option Value)} (a1 : PySem.W.nsIn K mainGlobals (Str.ofString "told_length") = some (some (.ref a)))
    (l1 : K.lookup a = some ⟨oc, od, .func (PySem.W.fnOf (Str.ofString "told_length") (Str.ofString "told_length") (defArgs t_told_length.st) (defBody t_told_length.st) (defScope t_told_length.st) .none kV dc pm an cd ct), sl⟩) (c1 : PySem.W.codeIn K cd (Str.ofString "told_length") = true) (k1 : PySem.W.keepIn K (.ref a) = true) : At K mg "told_length" t_told_length a (PySem.W.fnOf (Str.ofString "told_length") (Str.ofString "told_length") (defArgs t_told_length.st) (defBody t_told_length.st) (defScope t_told_length.st) .none kV dc pm an cd ct) :=
  at_mk KX G a1 l1 c1 k1 (fun _ _ _ _ _ _ us hl => match us, hl with | [_], _ => rfl) (fun _ _ _ _ _ _ n qs hm => nomatch (show (n, qs) ∈ ([] : List (Nat × List Nat)) from hm))
theorem at_read_length {K : PySem.W.Frag} {mg : Str → Option Value} {h : Heap} (KX : K.In h) (G : h.Ns mainGlobals mg) {a : Addr} {oc kV dc pm cd ct : Value} {od an : Option Addr} {sl : Array (Option Value)} (a1 : PySem.W.nsIn K mainGlobals (Str.ofString "read_length") = some (some (.ref a)))
    (l1 : K.lookup a = some ⟨oc, od, .func (PySem.W.fnOf (Str.ofString "read_length") (Str.ofString "read_length") (defArgs t_read_length.st) (defBody t_read_length.st) (defScope t_read_length.st) .none kV dc pm an cd ct), sl⟩) (c1 : PySem.W.codeIn K cd (Str.ofString "read_length") = true) (k1 : PySem.W.keepIn K (.ref a) = true) : At K mg "read_length" t_read_length a (PySem.W.fnOf (Str.ofString "read_length") (Str.ofString "read_length") (defArgs t_read_length.st) (defBody t_read_length.st) (defScope t_read_length.st) .none kV dc pm an cd ct) :=
  at_mk KX G a1 l1 c1 k1 (fun _ _ _ _ _ _ us hl => match us, hl with | [_], _ => rfl) (fun _ _ _ _ _ _ n qs hm => by
    have hm : (n, qs) ∈ ([(0, [0])] : List (Nat × List Nat)) := hm
    rcases List.mem_cons.mp hm with e | hm
    · obtain ⟨rfl, rfl⟩ := Prod.mk.inj e
      exact kb_mk (by decide) fun us ws h1 h2 => match us, ws, h1, h2 with | [], [_], _, _ => rfl
    exact nomatch hm)
theorem at__law_tower {K : PySem.W.Frag} {mg : Str → Option Value} {h : Heap} (KX : K.In h) (G : h.Ns mainGlobals mg) {a : Addr} {oc kV dc pm cd ct : Value} {od an : Option Addr} {sl : Array (Option Value)} (a1 : PySem.W.nsIn K mainGlobals (Str.ofString "_law_tower") = some (some (.ref a)))
    (l1 : K.lookup a = some ⟨oc, od, .func (PySem.W.fnOf (Str.ofString "_law_tower") (Str.ofString "_law_tower") (defArgs t__law_tower.st) (defBody t__law_tower.st) (defScope t__law_tower.st) .none kV dc pm an cd ct), sl⟩) (c1 : PySem.W.codeIn K cd (Str.ofString "_law_tower") = true) (k1 : PySem.W.keepIn K (.ref a) = true) : At K mg "_law_tower" t__law_tower a (PySem.W.fnOf (Str.ofString "_law_tower") (Str.ofString "_law_tower") (defArgs t__law_tower.st) (defBody t__law_tower.st) (defScope t__law_tower.st) .none kV dc pm an cd ct) :=
  at_mk KX G a1 l1 c1 k1 (fun _ _ _ _ _ _ us hl => match us, hl with | [_], _ => rfl) (fun _ _ _ _ _ _ n qs hm => nomatch (show (n, qs) ∈ ([] : List (Nat × List Nat)) from hm))
theorem at__law_chime {K : PySem.W.Frag} {mg : Str → Option Value} {h : Heap} (KX : K.In h) (G : h.Ns mainGlobals mg) {a : Addr} {oc kV dc pm cd ct : Value} {od an : Option Addr} {sl : Array (Option Value)} (a1 : PySem.W.nsIn K mainGlobals (Str.ofString "_law_chime") = some (some (.ref a)))
    (l1 : K.lookup a = some ⟨oc, od, .func (PySem.W.fnOf (Str.ofString "_law_chime") (Str.ofString "_law_chime") (defArgs t__law_chime.st) (defBody t__law_chime.st) (defScope t__law_chime.st) .none kV dc pm an cd ct), sl⟩) (c1 : PySem.W.codeIn K cd (Str.ofString "_law_chime") = true) (k1 : PySem.W.keepIn K (.ref a) = true) : At K mg "_law_chime" t__law_chime a (PySem.W.fnOf (Str.ofString "_law_chime") (Str.ofString "_law_chime") (defArgs t__law_chime.st) (defBody t__law_chime.st) (defScope t__law_chime.st) .none kV dc pm an cd ct) :=
  at_mk KX G a1 l1 c1 k1 (fun _ _ _ _ _ _ us hl => match us, hl with | [_, _], _ => rfl) (fun _ _ _ _ _ _ n qs hm => nomatch (show (n, qs) ∈ ([] : List (Nat × List Nat)) from hm))
theorem at__law_of {K : PySem.W.Frag} {mg : Str → Option Value} {h : Heap} (KX : K.In h) (G : h.Ns mainGlobals mg) {a : Addr} {oc kV dc pm cd ct : Value} {od an : Option Addr} {sl : Array (Option Value)} (a1 : PySem.W.nsIn K mainGlobals (Str.ofString "_law_of") = some (some (.ref a)))
    (l1 : K.lookup a = some ⟨oc, od, .func (PySem.W.fnOf (Str.ofString "_law_of") (Str.ofString "_law_of") (defArgs t__law_of.st) (defBody t__law_of.st) (defScope t__law_of.st) .none kV dc pm an cd ct), sl⟩) (c1 : PySem.W.codeIn K cd (Str.ofString "_law_of") = true) (k1 : PySem.W.keepIn K (.ref a) = true) : At K mg "_law_of" t__law_of a (PySem.W.fnOf (Str.ofString "_law_of") (Str.ofString "_law_of") (defArgs t__law_of.st) (defBody t__law_of.st) (defScope t__law_of.st) .none kV dc pm an cd ct) :=
  at_mk KX G a1 l1 c1 k1 (fun _ _ _ _ _ _ us hl => match us, hl with | [_, _], _ => rfl) (fun _ _ _ _ _ _ n qs hm => nomatch (show (n, qs) ∈ ([] : List (Nat × List Nat)) from hm))
theorem at__law_same {K : PySem.W.Frag} {mg : Str → Option Value} {h : Heap} (KX : K.In h) (G : h.Ns mainGlobals mg) {a : Addr} {oc kV dc pm cd ct : Value} {od an : Option Addr} {sl : Array (Option Value)} (a1 : PySem.W.nsIn K mainGlobals (Str.ofString "_law_same") = some (some (.ref a)))
    (l1 : K.lookup a = some ⟨oc, od, .func (PySem.W.fnOf (Str.ofString "_law_same") (Str.ofString "_law_same") (defArgs t__law_same.st) (defBody t__law_same.st) (defScope t__law_same.st) .none kV dc pm an cd ct), sl⟩) (c1 : PySem.W.codeIn K cd (Str.ofString "_law_same") = true) (k1 : PySem.W.keepIn K (.ref a) = true) : At K mg "_law_same" t__law_same a (PySem.W.fnOf (Str.ofString "_law_same") (Str.ofString "_law_same") (defArgs t__law_same.st) (defBody t__law_same.st) (defScope t__law_same.st) .none kV dc pm an cd ct) :=
  at_mk KX G a1 l1 c1 k1 (fun _ _ _ _ _ _ us hl => match us, hl with | [_, _], _ => rfl) (fun _ _ _ _ _ _ n qs hm => nomatch (show (n, qs) ∈ ([] : List (Nat × List Nat)) from hm))
theorem at__law_two {K : PySem.W.Frag} {mg : Str → Option Value} {h : Heap} (KX : K.In h) (G : h.Ns mainGlobals mg) {a : Addr} {oc kV dc pm cd ct : Value} {od an : Option Addr} {sl : Array (Option Value)} (a1 : PySem.W.nsIn K mainGlobals (Str.ofString "_law_two") = some (some (.ref a)))
    (l1 : K.lookup a = some ⟨oc, od, .func (PySem.W.fnOf (Str.ofString "_law_two") (Str.ofString "_law_two") (defArgs t__law_two.st) (defBody t__law_two.st) (defScope t__law_two.st) .none kV dc pm an cd ct), sl⟩) (c1 : PySem.W.codeIn K cd (Str.ofString "_law_two") = true) (k1 : PySem.W.keepIn K (.ref a) = true) : At K mg "_law_two" t__law_two a (PySem.W.fnOf (Str.ofString "_law_two") (Str.ofString "_law_two") (defArgs t__law_two.st) (defBody t__law_two.st) (defScope t__law_two.st) .none kV dc pm an cd ct) :=
  at_mk KX G a1 l1 c1 k1 (fun _ _ _ _ _ _ us hl => match us, hl with | [_], _ => rfl) (fun _ _ _ _ _ _ n qs hm => nomatch (show (n, qs) ∈ ([] : List (Nat × List Nat)) from hm))
theorem at__law_time {K : PySem.W.Frag} {mg : Str → Option Value} {h : Heap} (KX : K.In h) (G : h.Ns mainGlobals mg) {a : Addr} {oc kV dc pm cd ct : Value} {od an : Option Addr} {sl : Array (Option Value)} (a1 : PySem.W.nsIn K mainGlobals (Str.ofString "_law_time") = some (some (.ref a)))
    (l1 : K.lookup a = some ⟨oc, od, .func (PySem.W.fnOf (Str.ofString "_law_time") (Str.ofString "_law_time") (defArgs t__law_time.st) (defBody t__law_time.st) (defScope t__law_time.st) .none kV dc pm an cd ct), sl⟩) (c1 : PySem.W.codeIn K cd (Str.ofString "_law_time") = true) (k1 : PySem.W.keepIn K (.ref a) = true) : At K mg "_law_time" t__law_time a (PySem.W.fnOf (Str.ofString "_law_time") (Str.ofString "_law_time") (defArgs t__law_time.st) (defBody t__law_time.st) (defScope t__law_time.st) .none kV dc pm an cd ct) :=
  at_mk KX G a1 l1 c1 k1 (fun _ _ _ _ _ _ us hl => match us, hl with | [_], _ => rfl) (fun _ _ _ _ _ _ n qs hm => nomatch (show (n, qs) ∈ ([] : List (Nat × List Nat)) from hm))
theorem at__law_length {K : PySem.W.Frag} {mg : Str → Option Value} {h : Heap} (KX : K.In h) (G : h.Ns mainGlobals mg) {a : Addr} {oc kV dc pm cd ct : Value} {od an : Option Addr} {sl : Array (Option Value)} (a1 : PySem.W.nsIn K mainGlobals (Str.ofString "_law_length") = some (some (.ref a)))
    (l1 : K.lookup a = some ⟨oc, od, .func (PySem.W.fnOf (Str.ofString "_law_length") (Str.ofString "_law_length") (defArgs t__law_length.st) (defBody t__law_length.st) (defScope t__law_length.st) .none kV dc pm an cd ct), sl⟩) (c1 : PySem.W.codeIn K cd (Str.ofString "_law_length") = true) (k1 : PySem.W.keepIn K (.ref a) = true) : At K mg "_law_length" t__law_length a (PySem.W.fnOf (Str.ofString "_law_length") (Str.ofString "_law_length") (defArgs t__law_length.st) (defBody t__law_length.st) (defScope t__law_length.st) .none kV dc pm an cd ct) :=
  at_mk KX G a1 l1 c1 k1 (fun _ _ _ _ _ _ us hl => match us, hl with | [_], _ => rfl) (fun _ _ _ _ _ _ n qs hm => nomatch (show (n, qs) ∈ ([] : List (Nat × List Nat)) from hm))
theorem at__law_figures {K : PySem.W.Frag} {mg : Str → Option Value} {h : Heap} (KX : K.In h) (G : h.Ns mainGlobals mg) {a : Addr} {oc kV dc pm cd ct : Value} {od an : Option Addr} {sl : Array (Option Value)} (a1 : PySem.W.nsIn K mainGlobals (Str.ofString "_law_figures") = some (some (.ref a)))
    (l1 : K.lookup a = some ⟨oc, od, .func (PySem.W.fnOf (Str.ofString "_law_figures") (Str.ofString "_law_figures") (defArgs t__law_figures.st) (defBody t__law_figures.st) (defScope t__law_figures.st) .none kV dc pm an cd ct), sl⟩) (c1 : PySem.W.codeIn K cd (Str.ofString "_law_figures") = true) (k1 : PySem.W.keepIn K (.ref a) = true) : At K mg "_law_figures" t__law_figures a (PySem.W.fnOf (Str.ofString "_law_figures") (Str.ofString "_law_figures") (defArgs t__law_figures.st) (defBody t__law_figures.st) (defScope t__law_figures.st) .none kV dc pm an cd ct) :=
  at_mk KX G a1 l1 c1 k1 (fun _ _ _ _ _ _ us hl => match us, hl with | [_, _], _ => rfl) (fun _ _ _ _ _ _ n qs hm => nomatch (show (n, qs) ∈ ([] : List (Nat × List Nat)) from hm))
theorem at__law_due_time {K : PySem.W.Frag} {mg : Str → Option Value} {h : Heap} (KX : K.In h) (G : h.Ns mainGlobals mg) {a : Addr} {oc kV dc pm cd ct : Value} {od an : Option Addr} {sl : Array (Option Value)} (a1 : PySem.W.nsIn K mainGlobals (Str.ofString "_law_due_time") = some (some (.ref a)))
    (l1 : K.lookup a = some ⟨oc, od, .func (PySem.W.fnOf (Str.ofString "_law_due_time") (Str.ofString "_law_due_time") (defArgs t__law_due_time.st) (defBody t__law_due_time.st) (defScope t__law_due_time.st) .none kV dc pm an cd ct), sl⟩) (c1 : PySem.W.codeIn K cd (Str.ofString "_law_due_time") = true) (k1 : PySem.W.keepIn K (.ref a) = true) : At K mg "_law_due_time" t__law_due_time a (PySem.W.fnOf (Str.ofString "_law_due_time") (Str.ofString "_law_due_time") (defArgs t__law_due_time.st) (defBody t__law_due_time.st) (defScope t__law_due_time.st) .none kV dc pm an cd ct) :=
  at_mk KX G a1 l1 c1 k1 (fun _ _ _ _ _ _ us hl => match us, hl with | [_], _ => rfl) (fun _ _ _ _ _ _ n qs hm => nomatch (show (n, qs) ∈ ([] : List (Nat × List Nat)) from hm))
theorem at__law_due_length {K : PySem.W.Frag} {mg : Str → Option Value} {h : Heap} (KX : K.In h) (G : h.Ns mainGlobals mg) {a : Addr} {oc kV dc pm cd ct : Value} {od an : Option Addr} {sl : Array (Option Value)} (a1 : PySem.W.nsIn K mainGlobals (Str.ofString "_law_due_length") = some (some (.ref a)))
    (l1 : K.lookup a = some ⟨oc, od, .func (PySem.W.fnOf (Str.ofString "_law_due_length") (Str.ofString "_law_due_length") (defArgs t__law_due_length.st) (defBody t__law_due_length.st) (defScope t__law_due_length.st) .none kV dc pm an cd ct), sl⟩) (c1 : PySem.W.codeIn K cd (Str.ofString "_law_due_length") = true) (k1 : PySem.W.keepIn K (.ref a) = true) : At K mg "_law_due_length" t__law_due_length a (PySem.W.fnOf (Str.ofString "_law_due_length") (Str.ofString "_law_due_length") (defArgs t__law_due_length.st) (defBody t__law_due_length.st) (defScope t__law_due_length.st) .none kV dc pm an cd ct) :=
  at_mk KX G a1 l1 c1 k1 (fun _ _ _ _ _ _ us hl => match us, hl with | [_], _ => rfl) (fun _ _ _ _ _ _ n qs hm => nomatch (show (n, qs) ∈ ([] : List (Nat × List Nat)) from hm))
theorem at__law_heard {K : PySem.W.Frag} {mg : Str → Option Value} {h : Heap} (KX : K.In h) (G : h.Ns mainGlobals mg) {a : Addr} {oc kV dc pm cd ct : Value} {od an : Option Addr} {sl : Array (Option Value)} (a1 : PySem.W.nsIn K mainGlobals (Str.ofString "_law_heard") = some (some (.ref a)))
    (l1 : K.lookup a = some ⟨oc, od, .func (PySem.W.fnOf (Str.ofString "_law_heard") (Str.ofString "_law_heard") (defArgs t__law_heard.st) (defBody t__law_heard.st) (defScope t__law_heard.st) .none kV dc pm an cd ct), sl⟩) (c1 : PySem.W.codeIn K cd (Str.ofString "_law_heard") = true) (k1 : PySem.W.keepIn K (.ref a) = true) : At K mg "_law_heard" t__law_heard a (PySem.W.fnOf (Str.ofString "_law_heard") (Str.ofString "_law_heard") (defArgs t__law_heard.st) (defBody t__law_heard.st) (defScope t__law_heard.st) .none kV dc pm an cd ct) :=
  at_mk KX G a1 l1 c1 k1 (fun _ _ _ _ _ _ us hl => match us, hl with | [_, _], _ => rfl) (fun _ _ _ _ _ _ n qs hm => nomatch (show (n, qs) ∈ ([] : List (Nat × List Nat)) from hm))
theorem at__law_word {K : PySem.W.Frag} {mg : Str → Option Value} {h : Heap} (KX : K.In h) (G : h.Ns mainGlobals mg) {a : Addr} {oc kV dc pm cd ct : Value} {od an : Option Addr} {sl : Array (Option Value)} (a1 : PySem.W.nsIn K mainGlobals (Str.ofString "_law_word") = some (some (.ref a)))
    (l1 : K.lookup a = some ⟨oc, od, .func (PySem.W.fnOf (Str.ofString "_law_word") (Str.ofString "_law_word") (defArgs t__law_word.st) (defBody t__law_word.st) (defScope t__law_word.st) .none kV dc pm an cd ct), sl⟩) (c1 : PySem.W.codeIn K cd (Str.ofString "_law_word") = true) (k1 : PySem.W.keepIn K (.ref a) = true) : At K mg "_law_word" t__law_word a (PySem.W.fnOf (Str.ofString "_law_word") (Str.ofString "_law_word") (defArgs t__law_word.st) (defBody t__law_word.st) (defScope t__law_word.st) .none kV dc pm an cd ct) :=
  at_mk KX G a1 l1 c1 k1 (fun _ _ _ _ _ _ us hl => match us, hl with | [_], _ => rfl) (fun _ _ _ _ _ _ n qs hm => nomatch (show (n, qs) ∈ ([] : List (Nat × List Nat)) from hm))
theorem at__law_bent {K : PySem.W.Frag} {mg : Str → Option Value} {h : Heap} (KX : K.In h) (G : h.Ns mainGlobals mg) {a : Addr} {oc kV dc pm cd ct : Value} {od an : Option Addr} {sl : Array (Option Value)} (a1 : PySem.W.nsIn K mainGlobals (Str.ofString "_law_bent") = some (some (.ref a)))
    (l1 : K.lookup a = some ⟨oc, od, .func (PySem.W.fnOf (Str.ofString "_law_bent") (Str.ofString "_law_bent") (defArgs t__law_bent.st) (defBody t__law_bent.st) (defScope t__law_bent.st) .none kV dc pm an cd ct), sl⟩) (c1 : PySem.W.codeIn K cd (Str.ofString "_law_bent") = true) (k1 : PySem.W.keepIn K (.ref a) = true) : At K mg "_law_bent" t__law_bent a (PySem.W.fnOf (Str.ofString "_law_bent") (Str.ofString "_law_bent") (defArgs t__law_bent.st) (defBody t__law_bent.st) (defScope t__law_bent.st) .none kV dc pm an cd ct) :=
  at_mk KX G a1 l1 c1 k1 (fun _ _ _ _ _ _ us hl => match us, hl with | [_, _], _ => rfl) (fun _ _ _ _ _ _ n qs hm => nomatch (show (n, qs) ∈ ([] : List (Nat × List Nat)) from hm))
theorem at__law_minute {K : PySem.W.Frag} {mg : Str → Option Value} {h : Heap} (KX : K.In h) (G : h.Ns mainGlobals mg) {a : Addr} {oc kV dc pm cd ct : Value} {od an : Option Addr} {sl : Array (Option Value)} (a1 : PySem.W.nsIn K mainGlobals (Str.ofString "_law_minute") = some (some (.ref a)))
    (l1 : K.lookup a = some ⟨oc, od, .func (PySem.W.fnOf (Str.ofString "_law_minute") (Str.ofString "_law_minute") (defArgs t__law_minute.st) (defBody t__law_minute.st) (defScope t__law_minute.st) .none kV dc pm an cd ct), sl⟩) (c1 : PySem.W.codeIn K cd (Str.ofString "_law_minute") = true) (k1 : PySem.W.keepIn K (.ref a) = true) : At K mg "_law_minute" t__law_minute a (PySem.W.fnOf (Str.ofString "_law_minute") (Str.ofString "_law_minute") (defArgs t__law_minute.st) (defBody t__law_minute.st) (defScope t__law_minute.st) .none kV dc pm an cd ct) :=
  at_mk KX G a1 l1 c1 k1 (fun _ _ _ _ _ _ us hl => match us, hl with | [_], _ => rfl) (fun _ _ _ _ _ _ n qs hm => nomatch (show (n, qs) ∈ ([] : List (Nat × List Nat)) from hm))
theorem at__law_asked {K : PySem.W.Frag} {mg : Str → Option Value} {h : Heap} (KX : K.In h) (G : h.Ns mainGlobals mg) {a : Addr} {oc kV dc pm cd ct : Value} {od an : Option Addr} {sl : Array (Option Value)} (a1 : PySem.W.nsIn K mainGlobals (Str.ofString "_law_asked") = some (some (.ref a)))
    (l1 : K.lookup a = some ⟨oc, od, .func (PySem.W.fnOf (Str.ofString "_law_asked") (Str.ofString "_law_asked") (defArgs t__law_asked.st) (defBody t__law_asked.st) (defScope t__law_asked.st) .none kV dc pm an cd ct), sl⟩) (c1 : PySem.W.codeIn K cd (Str.ofString "_law_asked") = true) (k1 : PySem.W.keepIn K (.ref a) = true) : At K mg "_law_asked" t__law_asked a (PySem.W.fnOf (Str.ofString "_law_asked") (Str.ofString "_law_asked") (defArgs t__law_asked.st) (defBody t__law_asked.st) (defScope t__law_asked.st) .none kV dc pm an cd ct) :=
  at_mk KX G a1 l1 c1 k1 (fun _ _ _ _ _ _ us hl => match us, hl with | [_], _ => rfl) (fun _ _ _ _ _ _ n qs hm => nomatch (show (n, qs) ∈ ([] : List (Nat × List Nat)) from hm))
theorem at__law_hand {K : PySem.W.Frag} {mg : Str → Option Value} {h : Heap} (KX : K.In h) (G : h.Ns mainGlobals mg) {a : Addr} {oc kV dc pm cd ct : Value} {od an : Option Addr} {sl : Array (Option Value)} (a1 : PySem.W.nsIn K mainGlobals (Str.ofString "_law_hand") = some (some (.ref a)))
    (l1 : K.lookup a = some ⟨oc, od, .func (PySem.W.fnOf (Str.ofString "_law_hand") (Str.ofString "_law_hand") (defArgs t__law_hand.st) (defBody t__law_hand.st) (defScope t__law_hand.st) .none kV dc pm an cd ct), sl⟩) (c1 : PySem.W.codeIn K cd (Str.ofString "_law_hand") = true) (k1 : PySem.W.keepIn K (.ref a) = true) : At K mg "_law_hand" t__law_hand a (PySem.W.fnOf (Str.ofString "_law_hand") (Str.ofString "_law_hand") (defArgs t__law_hand.st) (defBody t__law_hand.st) (defScope t__law_hand.st) .none kV dc pm an cd ct) :=
  at_mk KX G a1 l1 c1 k1 (fun _ _ _ _ _ _ us hl => match us, hl with | [], _ => rfl) (fun _ _ _ _ _ _ n qs hm => nomatch (show (n, qs) ∈ ([] : List (Nat × List Nat)) from hm))
theorem at_law {K : PySem.W.Frag} {mg : Str → Option Value} {h : Heap} (KX : K.In h) (G : h.Ns mainGlobals mg) {a : Addr} {oc kV dc pm cd ct : Value} {od an : Option Addr} {sl : Array (Option Value)} (a1 : PySem.W.nsIn K mainGlobals (Str.ofString "law") = some (some (.ref a)))
    (l1 : K.lookup a = some ⟨oc, od, .func (PySem.W.fnOf (Str.ofString "law") (Str.ofString "law") (defArgs t_law.st) (defBody t_law.st) (defScope t_law.st) .none kV dc pm an cd ct), sl⟩) (c1 : PySem.W.codeIn K cd (Str.ofString "law") = true) (k1 : PySem.W.keepIn K (.ref a) = true) : At K mg "law" t_law a (PySem.W.fnOf (Str.ofString "law") (Str.ofString "law") (defArgs t_law.st) (defBody t_law.st) (defScope t_law.st) .none kV dc pm an cd ct) :=
  at_mk KX G a1 l1 c1 k1 (fun _ _ _ _ _ _ us hl => match us, hl with | [_], _ => rfl) (fun _ _ _ _ _ _ n qs hm => nomatch (show (n, qs) ∈ ([] : List (Nat × List Nat)) from hm))
def ini_BadLine : Stmt := match topS 2 with | .ClassDef (body := b) .. => b.getD 0 (.Pass ⟨0, 0, 0, 0⟩) | s => s
theorem x_BadLine [Tabs] {P : Program} {w : World} {K : PySem.W.Frag} {mg : Str → Option Value} {base : Heap} {C fI cc cda : Addr} {kV doc pm ct : Value} {an : Option Addr} (X : XK1 P K mg "BadLine" "BadLine.__init__" ini_BadLine C fI cc cda (PySem.W.fnX "__init__" "BadLine.__init__" (defArgs ini_BadLine) (defBody ini_BadLine) (defScope ini_BadLine) [(("__class__" : Str), cc)] .none kV doc pm an (.ref cda) ct)) (no0 : PySem.W.findIn K (.ref C) (Str.ofString "line") = some none) (no1 : PySem.W.findIn K (.ref C) (Str.ofString "word") = some none) : XOk P w K mg base (L2.CX P w) "BadLine" ["line", "word"] :=
  xok2 X rfl ⟨_, fun env => rfl⟩ (by decide +kernel) rfl rfl (by decide +kernel) (by decide +kernel) (by decide +kernel) no0 no1 (by decide +kernel) (fun us hl => match us, hl with | [_, _, _], _ => rfl)
theorem chk_all : ∀ f t, Ψ f = some t → chkTab (tabF Ψ) t = true := by
  intro f t h
  have hm := lookup_mem h
  unfold tabs at hm
  rcases List.mem_cons.mp hm with e | hm
  · cases e; exact c_are_figures
  rcases List.mem_cons.mp hm with e | hm
  · cases e; exact c_two_figures
  rcases List.mem_cons.mp hm with e | hm
  · cases e; exact c_time_text
  rcases List.mem_cons.mp hm with e | hm
  · cases e; exact c_told_time
  rcases List.mem_cons.mp hm with e | hm
  · cases e; exact c_read_time
  rcases List.mem_cons.mp hm with e | hm
  · cases e; exact c_length_text
  rcases List.mem_cons.mp hm with e | hm
  · cases e; exact c_told_length
  rcases List.mem_cons.mp hm with e | hm
  · cases e; exact c_read_length
  rcases List.mem_cons.mp hm with e | hm
  · cases e; exact c__law_tower
  rcases List.mem_cons.mp hm with e | hm
  · cases e; exact c__law_chime
  rcases List.mem_cons.mp hm with e | hm
  · cases e; exact c__law_of
  rcases List.mem_cons.mp hm with e | hm
  · cases e; exact c__law_same
  rcases List.mem_cons.mp hm with e | hm
  · cases e; exact c__law_two
  rcases List.mem_cons.mp hm with e | hm
  · cases e; exact c__law_time
  rcases List.mem_cons.mp hm with e | hm
  · cases e; exact c__law_length
  rcases List.mem_cons.mp hm with e | hm
  · cases e; exact c__law_figures
  rcases List.mem_cons.mp hm with e | hm
  · cases e; exact c__law_due_time
  rcases List.mem_cons.mp hm with e | hm
  · cases e; exact c__law_due_length
  rcases List.mem_cons.mp hm with e | hm
  · cases e; exact c__law_heard
  rcases List.mem_cons.mp hm with e | hm
  · cases e; exact c__law_word
  rcases List.mem_cons.mp hm with e | hm
  · cases e; exact c__law_bent
  rcases List.mem_cons.mp hm with e | hm
  · cases e; exact c__law_minute
  rcases List.mem_cons.mp hm with e | hm
  · cases e; exact c__law_asked
  rcases List.mem_cons.mp hm with e | hm
  · cases e; exact c__law_hand
  rcases List.mem_cons.mp hm with e | hm
  · cases e; exact c_law
  exact nomatch hm
theorem all_mk {P : Program} {q : Program} {w : World} {K : PySem.W.Frag} {mg : Str → Option Value} {h : Heap} {fa : Addr} (KX : K.In h) (G : h.Ns mainGlobals mg) (hfa : mg (Str.ofString "law") = some (.ref fa)) (own : AllTab q K mg h) (hrec : (["are_figures", "told_time"] : List String).all (fun x => (recsOf q).any fun e => e.name == Str.ofString x) = true)
    {f0 : Addr} {oc0 kV0 dc0 pm0 ct0 : Value} {gc0 gP0 : Addr} {ge0 : Value} {gdd0 : Option Addr} {gvs0 : Array Value} {gsl0 : Array (Option Value)} {od0 an0 : Option Addr} {sl0 : Array (Option Value)} (a0 : PySem.W.nsIn K mainGlobals (Str.ofString "are_figures") = some (some (.ref f0))) (l0 : K.lookup f0 = some ⟨oc0, od0, .func (PySem.W.fnOf (Str.ofString "are_figures") (Str.ofString "are_figures") (defArgs t_are_figures.st) (defBody t_are_figures.st) (defScope t_are_figures.st) .none kV0 dc0 pm0 an0 (.ref gc0) ct0), sl0⟩) (c0 : PySem.W.codeIn K (.ref gc0) (Str.ofString "are_figures") = true) (k0 : PySem.W.keepIn K (.ref f0) = true) (g0a : K.lookup gc0 = some ⟨ge0, gdd0, .fields gvs0, gsl0⟩) (g0b : gvs0[11]? = some (.ref gP0)) (g0c : PySem.W.codeHdIn K gc0 gP0 = true) (g0d : K.lookup gP0 = none)
    {f1 : Addr} {oc1 kV1 dc1 pm1 cd1 ct1 : Value} {od1 an1 : Option Addr} {sl1 : Array (Option Value)} (a1 : PySem.W.nsIn K mainGlobals (Str.ofString "two_figures") = some (some (.ref f1))) (l1 : K.lookup f1 = some ⟨oc1, od1, .func (PySem.W.fnOf (Str.ofString "two_figures") (Str.ofString "two_figures") (defArgs t_two_figures.st) (defBody t_two_figures.st) (defScope t_two_figures.st) .none kV1 dc1 pm1 an1 cd1 ct1), sl1⟩) (c1 : PySem.W.codeIn K cd1 (Str.ofString "two_figures") = true) (k1 : PySem.W.keepIn K (.ref f1) = true)
    {f2 : Addr} {oc2 kV2 dc2 pm2 cd2 ct2 : Value} {od2 an2 : Option Addr} {sl2 : Array (Option Value)} (a2 : PySem.W.nsIn K mainGlobals (Str.ofString "time_text") = some (some (.ref f2))) (l2 : K.lookup f2 = some ⟨oc2, od2, .func (PySem.W.fnOf (Str.ofString "time_text") (Str.ofString "time_text") (defArgs t_time_text.st) (defBody t_time_text.st) (defScope t_time_text.st) .none kV2 dc2 pm2 an2 cd2 ct2), sl2⟩) (c2 : PySem.W.codeIn K cd2 (Str.ofString "time_text") = true) (k2 : PySem.W.keepIn K (.ref f2) = true)
    {f3 : Addr} {oc3 kV3 dc3 pm3 ct3 : Value} {gc3 gP3 : Addr} {ge3 : Value} {gdd3 : Option Addr} {gvs3 : Array Value} {gsl3 : Array (Option Value)} {od3 an3 : Option Addr} {sl3 : Array (Option Value)} (a3 : PySem.W.nsIn K mainGlobals (Str.ofString "told_time") = some (some (.ref f3))) (l3 : K.lookup f3 = some ⟨oc3, od3, .func (PySem.W.fnOf (Str.ofString "told_time") (Str.ofString "told_time") (defArgs t_told_time.st) (defBody t_told_time.st) (defScope t_told_time.st) .none kV3 dc3 pm3 an3 (.ref gc3) ct3), sl3⟩) (c3 : PySem.W.codeIn K (.ref gc3) (Str.ofString "told_time") = true) (k3 : PySem.W.keepIn K (.ref f3) = true) (g3a : K.lookup gc3 = some ⟨ge3, gdd3, .fields gvs3, gsl3⟩) (g3b : gvs3[11]? = some (.ref gP3)) (g3c : PySem.W.codeHdIn K gc3 gP3 = true) (g3d : K.lookup gP3 = none)
    {f4 : Addr} {oc4 kV4 dc4 pm4 cd4 ct4 : Value} {od4 an4 : Option Addr} {sl4 : Array (Option Value)} (a4 : PySem.W.nsIn K mainGlobals (Str.ofString "read_time") = some (some (.ref f4))) (l4 : K.lookup f4 = some ⟨oc4, od4, .func (PySem.W.fnOf (Str.ofString "read_time") (Str.ofString "read_time") (defArgs t_read_time.st) (defBody t_read_time.st) (defScope t_read_time.st) .none kV4 dc4 pm4 an4 cd4 ct4), sl4⟩) (c4 : PySem.W.codeIn K cd4 (Str.ofString "read_time") = true) (k4 : PySem.W.keepIn K (.ref f4) = true)
    {f5 : Addr} {oc5 kV5 dc5 pm5 cd5 ct5 : Value} {od5 an5 : Option Addr} {sl5 : Array (Option Value)} (a5 : PySem.W.nsIn K mainGlobals (Str.ofString "length_text") = some (some (.ref f5))) (l5 : K.lookup f5 = some ⟨oc5, od5, .func (PySem.W.fnOf (Str.ofString "length_text") (Str.ofString "length_text") (defArgs t_length_text.st) (defBody t_length_text.st) (defScope t_length_text.st) .none kV5 dc5 pm5 an5 cd5 ct5), sl5⟩) (c5 : PySem.W.codeIn K cd5 (Str.ofString "length_text") = true) (k5 : PySem.W.keepIn K (.ref f5) = true)
    {f6 : Addr} {oc6 kV6 dc6 pm6 cd6 ct6 : Value} {od6 an6 : Option Addr} {sl6 : Array (Option Value)} (a6 : PySem.W.nsIn K mainGlobals (Str.ofString "told_length") = some (some (.ref f6))) (l6 : K.lookup f6 = some ⟨oc6, od6, .func (PySem.W.fnOf (Str.ofString "told_length") (Str.ofString "told_length") (defArgs t_told_length.st) (defBody t_told_length.st) (defScope t_told_length.st) .none kV6 dc6 pm6 an6 cd6 ct6), sl6⟩) (c6 : PySem.W.codeIn K cd6 (Str.ofString "told_length") = true) (k6 : PySem.W.keepIn K (.ref f6) = true)
    {f7 : Addr} {oc7 kV7 dc7 pm7 cd7 ct7 : Value} {od7 an7 : Option Addr} {sl7 : Array (Option Value)} (a7 : PySem.W.nsIn K mainGlobals (Str.ofString "read_length") = some (some (.ref f7))) (l7 : K.lookup f7 = some ⟨oc7, od7, .func (PySem.W.fnOf (Str.ofString "read_length") (Str.ofString "read_length") (defArgs t_read_length.st) (defBody t_read_length.st) (defScope t_read_length.st) .none kV7 dc7 pm7 an7 cd7 ct7), sl7⟩) (c7 : PySem.W.codeIn K cd7 (Str.ofString "read_length") = true) (k7 : PySem.W.keepIn K (.ref f7) = true)
    {f8 : Addr} {oc8 kV8 dc8 pm8 cd8 ct8 : Value} {od8 an8 : Option Addr} {sl8 : Array (Option Value)} (a8 : PySem.W.nsIn K mainGlobals (Str.ofString "_law_tower") = some (some (.ref f8))) (l8 : K.lookup f8 = some ⟨oc8, od8, .func (PySem.W.fnOf (Str.ofString "_law_tower") (Str.ofString "_law_tower") (defArgs t__law_tower.st) (defBody t__law_tower.st) (defScope t__law_tower.st) .none kV8 dc8 pm8 an8 cd8 ct8), sl8⟩) (c8 : PySem.W.codeIn K cd8 (Str.ofString "_law_tower") = true) (k8 : PySem.W.keepIn K (.ref f8) = true)
    {f9 : Addr} {oc9 kV9 dc9 pm9 cd9 ct9 : Value} {od9 an9 : Option Addr} {sl9 : Array (Option Value)} (a9 : PySem.W.nsIn K mainGlobals (Str.ofString "_law_chime") = some (some (.ref f9))) (l9 : K.lookup f9 = some ⟨oc9, od9, .func (PySem.W.fnOf (Str.ofString "_law_chime") (Str.ofString "_law_chime") (defArgs t__law_chime.st) (defBody t__law_chime.st) (defScope t__law_chime.st) .none kV9 dc9 pm9 an9 cd9 ct9), sl9⟩) (c9 : PySem.W.codeIn K cd9 (Str.ofString "_law_chime") = true) (k9 : PySem.W.keepIn K (.ref f9) = true)
    {f10 : Addr} {oc10 kV10 dc10 pm10 cd10 ct10 : Value} {od10 an10 : Option Addr} {sl10 : Array (Option Value)} (a10 : PySem.W.nsIn K mainGlobals (Str.ofString "_law_of") = some (some (.ref f10))) (l10 : K.lookup f10 = some ⟨oc10, od10, .func (PySem.W.fnOf (Str.ofString "_law_of") (Str.ofString "_law_of") (defArgs t__law_of.st) (defBody t__law_of.st) (defScope t__law_of.st) .none kV10 dc10 pm10 an10 cd10 ct10), sl10⟩) (c10 : PySem.W.codeIn K cd10 (Str.ofString "_law_of") = true) (k10 : PySem.W.keepIn K (.ref f10) = true)
    {f11 : Addr} {oc11 kV11 dc11 pm11 cd11 ct11 : Value} {od11 an11 : Option Addr} {sl11 : Array (Option Value)} (a11 : PySem.W.nsIn K mainGlobals (Str.ofString "_law_same") = some (some (.ref f11))) (l11 : K.lookup f11 = some ⟨oc11, od11, .func (PySem.W.fnOf (Str.ofString "_law_same") (Str.ofString "_law_same") (defArgs t__law_same.st) (defBody t__law_same.st) (defScope t__law_same.st) .none kV11 dc11 pm11 an11 cd11 ct11), sl11⟩) (c11 : PySem.W.codeIn K cd11 (Str.ofString "_law_same") = true) (k11 : PySem.W.keepIn K (.ref f11) = true)
    {f12 : Addr} {oc12 kV12 dc12 pm12 cd12 ct12 : Value} {od12 an12 : Option Addr} {sl12 : Array (Option Value)} (a12 : PySem.W.nsIn K mainGlobals (Str.ofString "_law_two") = some (some (.ref f12))) (l12 : K.lookup f12 = some ⟨oc12, od12, .func (PySem.W.fnOf (Str.ofString "_law_two") (Str.ofString "_law_two") (defArgs t__law_two.st) (defBody t__law_two.st) (defScope t__law_two.st) .none kV12 dc12 pm12 an12 cd12 ct12), sl12⟩) (c12 : PySem.W.codeIn K cd12 (Str.ofString "_law_two") = true) (k12 : PySem.W.keepIn K (.ref f12) = true)
    {f13 : Addr} {oc13 kV13 dc13 pm13 cd13 ct13 : Value} {od13 an13 : Option Addr} {sl13 : Array (Option Value)} (a13 : PySem.W.nsIn K mainGlobals (Str.ofString "_law_time") = some (some (.ref f13))) (l13 : K.lookup f13 = some ⟨oc13, od13, .func (PySem.W.fnOf (Str.ofString "_law_time") (Str.ofString "_law_time") (defArgs t__law_time.st) (defBody t__law_time.st) (defScope t__law_time.st) .none kV13 dc13 pm13 an13 cd13 ct13), sl13⟩) (c13 : PySem.W.codeIn K cd13 (Str.ofString "_law_time") = true) (k13 : PySem.W.keepIn K (.ref f13) = true)
    {f14 : Addr} {oc14 kV14 dc14 pm14 cd14 ct14 : Value} {od14 an14 : Option Addr} {sl14 : Array (Option Value)} (a14 : PySem.W.nsIn K mainGlobals (Str.ofString "_law_length") = some (some (.ref f14))) (l14 : K.lookup f14 = some ⟨oc14, od14, .func (PySem.W.fnOf (Str.ofString "_law_length") (Str.ofString "_law_length") (defArgs t__law_length.st) (defBody t__law_length.st) (defScope t__law_length.st) .none kV14 dc14 pm14 an14 cd14 ct14), sl14⟩) (c14 : PySem.W.codeIn K cd14 (Str.ofString "_law_length") = true) (k14 : PySem.W.keepIn K (.ref f14) = true)
    {f15 : Addr} {oc15 kV15 dc15 pm15 cd15 ct15 : Value} {od15 an15 : Option Addr} {sl15 : Array (Option Value)} (a15 : PySem.W.nsIn K mainGlobals (Str.ofString "_law_figures") = some (some (.ref f15))) (l15 : K.lookup f15 = some ⟨oc15, od15, .func (PySem.W.fnOf (Str.ofString "_law_figures") (Str.ofString "_law_figures") (defArgs t__law_figures.st) (defBody t__law_figures.st) (defScope t__law_figures.st) .none kV15 dc15 pm15 an15 cd15 ct15), sl15⟩) (c15 : PySem.W.codeIn K cd15 (Str.ofString "_law_figures") = true) (k15 : PySem.W.keepIn K (.ref f15) = true)
    {f16 : Addr} {oc16 kV16 dc16 pm16 cd16 ct16 : Value} {od16 an16 : Option Addr} {sl16 : Array (Option Value)} (a16 : PySem.W.nsIn K mainGlobals (Str.ofString "_law_due_time") = some (some (.ref f16))) (l16 : K.lookup f16 = some ⟨oc16, od16, .func (PySem.W.fnOf (Str.ofString "_law_due_time") (Str.ofString "_law_due_time") (defArgs t__law_due_time.st) (defBody t__law_due_time.st) (defScope t__law_due_time.st) .none kV16 dc16 pm16 an16 cd16 ct16), sl16⟩) (c16 : PySem.W.codeIn K cd16 (Str.ofString "_law_due_time") = true) (k16 : PySem.W.keepIn K (.ref f16) = true)
    {f17 : Addr} {oc17 kV17 dc17 pm17 cd17 ct17 : Value} {od17 an17 : Option Addr} {sl17 : Array (Option Value)} (a17 : PySem.W.nsIn K mainGlobals (Str.ofString "_law_due_length") = some (some (.ref f17))) (l17 : K.lookup f17 = some ⟨oc17, od17, .func (PySem.W.fnOf (Str.ofString "_law_due_length") (Str.ofString "_law_due_length") (defArgs t__law_due_length.st) (defBody t__law_due_length.st) (defScope t__law_due_length.st) .none kV17 dc17 pm17 an17 cd17 ct17), sl17⟩) (c17 : PySem.W.codeIn K cd17 (Str.ofString "_law_due_length") = true) (k17 : PySem.W.keepIn K (.ref f17) = true)
    {f18 : Addr} {oc18 kV18 dc18 pm18 cd18 ct18 : Value} {od18 an18 : Option Addr} {sl18 : Array (Option Value)} (a18 : PySem.W.nsIn K mainGlobals (Str.ofString "_law_heard") = some (some (.ref f18))) (l18 : K.lookup f18 = some ⟨oc18, od18, .func (PySem.W.fnOf (Str.ofString "_law_heard") (Str.ofString "_law_heard") (defArgs t__law_heard.st) (defBody t__law_heard.st) (defScope t__law_heard.st) .none kV18 dc18 pm18 an18 cd18 ct18), sl18⟩) (c18 : PySem.W.codeIn K cd18 (Str.ofString "_law_heard") = true) (k18 : PySem.W.keepIn K (.ref f18) = true)
    {f19 : Addr} {oc19 kV19 dc19 pm19 cd19 ct19 : Value} {od19 an19 : Option Addr} {sl19 : Array (Option Value)} (a19 : PySem.W.nsIn K mainGlobals (Str.ofString "_law_word") = some (some (.ref f19))) (l19 : K.lookup f19 = some ⟨oc19, od19, .func (PySem.W.fnOf (Str.ofString "_law_word") (Str.ofString "_law_word") (defArgs t__law_word.st) (defBody t__law_word.st) (defScope t__law_word.st) .none kV19 dc19 pm19 an19 cd19 ct19), sl19⟩) (c19 : PySem.W.codeIn K cd19 (Str.ofString "_law_word") = true) (k19 : PySem.W.keepIn K (.ref f19) = true)
    {f20 : Addr} {oc20 kV20 dc20 pm20 cd20 ct20 : Value} {od20 an20 : Option Addr} {sl20 : Array (Option Value)} (a20 : PySem.W.nsIn K mainGlobals (Str.ofString "_law_bent") = some (some (.ref f20))) (l20 : K.lookup f20 = some ⟨oc20, od20, .func (PySem.W.fnOf (Str.ofString "_law_bent") (Str.ofString "_law_bent") (defArgs t__law_bent.st) (defBody t__law_bent.st) (defScope t__law_bent.st) .none kV20 dc20 pm20 an20 cd20 ct20), sl20⟩) (c20 : PySem.W.codeIn K cd20 (Str.ofString "_law_bent") = true) (k20 : PySem.W.keepIn K (.ref f20) = true)
    {f21 : Addr} {oc21 kV21 dc21 pm21 cd21 ct21 : Value} {od21 an21 : Option Addr} {sl21 : Array (Option Value)} (a21 : PySem.W.nsIn K mainGlobals (Str.ofString "_law_minute") = some (some (.ref f21))) (l21 : K.lookup f21 = some ⟨oc21, od21, .func (PySem.W.fnOf (Str.ofString "_law_minute") (Str.ofString "_law_minute") (defArgs t__law_minute.st) (defBody t__law_minute.st) (defScope t__law_minute.st) .none kV21 dc21 pm21 an21 cd21 ct21), sl21⟩) (c21 : PySem.W.codeIn K cd21 (Str.ofString "_law_minute") = true) (k21 : PySem.W.keepIn K (.ref f21) = true)
    {f22 : Addr} {oc22 kV22 dc22 pm22 cd22 ct22 : Value} {od22 an22 : Option Addr} {sl22 : Array (Option Value)} (a22 : PySem.W.nsIn K mainGlobals (Str.ofString "_law_asked") = some (some (.ref f22))) (l22 : K.lookup f22 = some ⟨oc22, od22, .func (PySem.W.fnOf (Str.ofString "_law_asked") (Str.ofString "_law_asked") (defArgs t__law_asked.st) (defBody t__law_asked.st) (defScope t__law_asked.st) .none kV22 dc22 pm22 an22 cd22 ct22), sl22⟩) (c22 : PySem.W.codeIn K cd22 (Str.ofString "_law_asked") = true) (k22 : PySem.W.keepIn K (.ref f22) = true)
    {f23 : Addr} {oc23 kV23 dc23 pm23 cd23 ct23 : Value} {od23 an23 : Option Addr} {sl23 : Array (Option Value)} (a23 : PySem.W.nsIn K mainGlobals (Str.ofString "_law_hand") = some (some (.ref f23))) (l23 : K.lookup f23 = some ⟨oc23, od23, .func (PySem.W.fnOf (Str.ofString "_law_hand") (Str.ofString "_law_hand") (defArgs t__law_hand.st) (defBody t__law_hand.st) (defScope t__law_hand.st) .none kV23 dc23 pm23 an23 cd23 ct23), sl23⟩) (c23 : PySem.W.codeIn K cd23 (Str.ofString "_law_hand") = true) (k23 : PySem.W.keepIn K (.ref f23) = true)
    {f24 : Addr} {oc24 kV24 dc24 pm24 cd24 ct24 : Value} {od24 an24 : Option Addr} {sl24 : Array (Option Value)} (a24 : PySem.W.nsIn K mainGlobals (Str.ofString "law") = some (some (.ref f24))) (l24 : K.lookup f24 = some ⟨oc24, od24, .func (PySem.W.fnOf (Str.ofString "law") (Str.ofString "law") (defArgs t_law.st) (defBody t_law.st) (defScope t_law.st) .none kV24 dc24 pm24 an24 cd24 ct24), sl24⟩) (c24 : PySem.W.codeIn K cd24 (Str.ofString "law") = true) (k24 : PySem.W.keepIn K (.ref f24) = true)
    (z0 : PySem.W.nsIn K mainGlobals (Str.ofString "abs") = some none) (z1 : PySem.W.nsIn K mainGlobals (Str.ofString "max") = some none) (z2 : PySem.W.nsIn K mainGlobals (Str.ofString "min") = some none) (z3 : PySem.W.nsIn K mainGlobals (Str.ofString "int") = some none) (z4 : PySem.W.nsIn K mainGlobals (Str.ofString "len") = some none) (z5 : PySem.W.nsIn K mainGlobals (Str.ofString "sum") = some none) (z6 : PySem.W.nsIn K mainGlobals (Str.ofString "list") = some none) (z7 : PySem.W.nsIn K mainGlobals (Str.ofString "tuple") = some none) (z8 : PySem.W.nsIn K mainGlobals (Str.ofString "sorted") = some none) (z9 : PySem.W.nsIn K mainGlobals (Str.ofString "str") = some none) (z10 : PySem.W.nsIn K mainGlobals (Str.ofString "range") = some none) (z11 : PySem.W.nsIn K mainGlobals (Str.ofString "isinstance") = some none) (z12 : PySem.W.nsIn K mainGlobals (Str.ofString "enumerate") = some none) (z13 : PySem.W.nsIn K mainGlobals (Str.ofString "bool") = some none) (z14 : PySem.W.nsIn K mainGlobals (Str.ofString "dict") = some none) (z15 : PySem.W.nsIn K mainGlobals (Str.ofString "any") = some none) (z16 : PySem.W.nsIn K mainGlobals (Str.ofString "all") = some none) (z17 : PySem.W.nsIn K mainGlobals (Str.ofString "set") = some none)
    {nmX0 qX0 : Str} {NnX0 CC0 fIX0 ccX0 cdaX0 : Addr} {bsX0 bmX0 : List Value} {snX0 : List Str} {subX0 : List Value} {abX0 : Bool} {colX0 : Option Bool} {ddX0 : Option Addr} {k0X0 k1X0 k2X0 k3X0 k5X0 : Option Value} {ocX0 kVX0 docX0 pmX0 ctX0 cclX0 clX0 : Value} {anX0 odX0 cddX0 cldX0 : Option Addr} {oslX0 ccsX0 cslX0 : Array (Option Value)} {vsX0 : Array Value} {flX0 : Str} {tfX0 : Tok} (x1X0 : PySem.W.nsIn K mainGlobals (Str.ofString "BadLine") = some (some (.ref CC0))) (x2X0 : K.lookup CC0 = some (PySem.excClassObj nmX0 qX0 CC0 NnX0 bsX0 bmX0 true snX0 subX0 abX0 colX0 ddX0 k0X0 k1X0 k2X0 k3X0 k5X0 "ValueError.__new__")) (x3X0 : PySem.HandSPX.refsVE bmX0 = true) (x4X0 : PySem.W.findIn K (.ref CC0) "__setattr__" = some (some (.builtin "object.__setattr__"))) (x5X0 : PySem.W.subIn K (.ref CC0) (.type "BaseException") = some true) (x6X0 : PySem.W.typeIn K (.ref CC0) = some (.type "type")) (x7X0 : PySem.W.keepIn K (.ref CC0) = true) (x8X0 : PySem.W.findIn K (.ref CC0) "__init__" = some (some (.ref fIX0))) (x9X0 : PySem.W.typeIn K (.ref fIX0) = some (.type "function")) (y1X0 : K.lookup fIX0 = some ⟨ocX0, odX0, .func (PySem.W.fnX "__init__" "BadLine.__init__" (defArgs ini_BadLine) (defBody ini_BadLine) (defScope ini_BadLine) [(("__class__" : Str), ccX0)] .none kVX0 docX0 pmX0 anX0 (.ref cdaX0) ctX0), oslX0⟩) (y2X0 : PySem.W.codeIn K (.ref cdaX0) "BadLine.__init__" = true) (y3X0 : K.lookup cdaX0 = some ⟨cclX0, cddX0, .fields vsX0, ccsX0⟩) (y4X0 : vsX0[2]? = some (.str flX0 tfX0)) (y5X0 : ((P.main.file : Str) == flX0) = true) (y6X0 : K.lookup ccX0 = some ⟨clX0, cldX0, .cell (some (.ref CC0)), cslX0⟩) (y9X0 : PySem.W.ks_superIn K CC0 CC0 "__init__" = some (some (.builtin Mx.vInit))) (z2X0 : PySem.W.findIn K (.ref CC0) "__getattribute__" = some (some (.builtin "BaseException.__getattribute__"))) (z3X0 : PySem.W.findIn K (.ref CC0) "__getattr__" = some none) (z4X0 : PySem.W.hasDictIn K CC0 = true) (z5X0 : PySem.W.findIn K (.ref CC0) "__class__" = some (some (.builtin "object.__class__"))) (z6X0 : PySem.W.specialIn K (.builtin "object.__class__") "__get__" = some (some (.builtin "getset_descriptor.__get__"))) (z7X0 : PySem.W.takesIn K (.builtin "object.__class__") = some true) (z8X0 : PySem.W.mroIn K CC0 (.type "object") = some true) (no0X0 : PySem.W.findIn K (.ref CC0) (Str.ofString "line") = some none) (no1X0 : PySem.W.findIn K (.ref CC0) (Str.ofString "word") = some none)
    {CE : Addr} (e0 : PySem.W.nsIn K mainGlobals (Str.ofString "ComeError") = some (some (.ref CE))) (e1 : PySem.W.nsIn K mainGlobals (Str.ofString "super") = some none) (e2 : PySem.W.nsIn K cStatics "thirdparty.any" = some none) (e3 : (P.main.scope.names.lookup ("super" : Str)).isSome = false) (m0_0 : PySem.W.exmOne K (.ref CC0) (.ref CC0) = some true) (m0_E : PySem.W.exmOne K (.ref CC0) (.ref CE) = some true)
    {t0 : Tok} (s0 : PySem.W.nsIn K mainGlobals (Str.ofString "DIGITS") = some (some (.str (Str.ofString "0123456789") t0))) {t1 : Tok} (s1 : PySem.W.nsIn K mainGlobals (Str.ofString "LONGEST") = some (some (.int 9 t1))) {t2 : Tok} (s2 : PySem.W.nsIn K mainGlobals (Str.ofString "HOUR") = some (some (.int 60 t2))) {t3 : Tok} (s3 : PySem.W.nsIn K mainGlobals (Str.ofString "DAY") = some (some (.int 1440 t3))) {t4 : Tok} (s4 : PySem.W.nsIn K mainGlobals (Str.ofString "HOURS") = some (some (.int 24 t4))) :
    ∃ (fd : FuncData) (cs : List (Addr × Addr)) (sp : Sp), (∀ p ∈ cs, h.get? p.2 = some { cls := .none, data := .fields #[] }) ∧ (∀ p ∈ cs, K.lookup p.2 = none) ∧ (∀ p ∈ cs, PySem.W.CodeHd h p.1 p.2) ∧ (∀ (s : Shared) (v : Value), BindsTo s fd ⟨[v], []⟩ [(Str.ofString "script", v)]) ∧
    (∀ (H : Hp) (a : Addr) (ns : List Int), ns.length ≤ 63 → (∀ z ∈ ns, Builtin.Int.intBits z ≤ 1048576) → (∀ p ∈ cs, H p.2 = some (.tbl #[])) → SqL K H a (ns.map V.int) → sp [.ref a] H (fun v _ => v = .bl true) fun _ _ _ => False) ∧
    ∀ base : Heap, K.In base → base.Ns mainGlobals mg → (∀ p ∈ cs, LamX.TabB base mg p.1 p.2) → FnOk P w K mg base (L2.CX P w) 82 fa fd [Str.ofString "script"] sp := by
  have e := hfa.symm.trans (PySem.W.mg_of KX G a24)
  cases e
  have A0 := at_are_figures KX G a0 l0 c0 k0
  have A1 := at_two_figures KX G a1 l1 c1 k1
  have A2 := at_time_text KX G a2 l2 c2 k2
  have A3 := at_told_time KX G a3 l3 c3 k3
  have A4 := at_read_time KX G a4 l4 c4 k4
  have A5 := at_length_text KX G a5 l5 c5 k5
  have A6 := at_told_length KX G a6 l6 c6 k6
  have A7 := at_read_length KX G a7 l7 c7 k7
  have A8 := at__law_tower KX G a8 l8 c8 k8
  have A9 := at__law_chime KX G a9 l9 c9 k9
  have A10 := at__law_of KX G a10 l10 c10 k10
  have A11 := at__law_same KX G a11 l11 c11 k11
  have A12 := at__law_two KX G a12 l12 c12 k12
  have A13 := at__law_time KX G a13 l13 c13 k13
  have A14 := at__law_length KX G a14 l14 c14 k14
  have A15 := at__law_figures KX G a15 l15 c15 k15
  have A16 := at__law_due_time KX G a16 l16 c16 k16
  have A17 := at__law_due_length KX G a17 l17 c17 k17
  have A18 := at__law_heard KX G a18 l18 c18 k18
  have A19 := at__law_word KX G a19 l19 c19 k19
  have A20 := at__law_bent KX G a20 l20 c20 k20
  have A21 := at__law_minute KX G a21 l21 c21 k21
  have A22 := at__law_asked KX G a22 l22 c22 k22
  have A23 := at__law_hand KX G a23 l23 c23 k23
  have A24 := at_law KX G a24 l24 c24 k24
  have ha : ∀ f t, Ψ f = some t → ∃ a fd, At K mg f t a fd := by
    intro f t h
    have hm := lookup_mem h
    unfold tabs at hm
    rcases List.mem_cons.mp hm with e | hm
    · cases e; exact ⟨_, _, A0⟩
    rcases List.mem_cons.mp hm with e | hm
    · cases e; exact ⟨_, _, A1⟩
    rcases List.mem_cons.mp hm with e | hm
    · cases e; exact ⟨_, _, A2⟩
    rcases List.mem_cons.mp hm with e | hm
    · cases e; exact ⟨_, _, A3⟩
    rcases List.mem_cons.mp hm with e | hm
    · cases e; exact ⟨_, _, A4⟩
    rcases List.mem_cons.mp hm with e | hm
    · cases e; exact ⟨_, _, A5⟩
    rcases List.mem_cons.mp hm with e | hm
    · cases e; exact ⟨_, _, A6⟩
    rcases List.mem_cons.mp hm with e | hm
    · cases e; exact ⟨_, _, A7⟩
    rcases List.mem_cons.mp hm with e | hm
    · cases e; exact ⟨_, _, A8⟩
    rcases List.mem_cons.mp hm with e | hm
    · cases e; exact ⟨_, _, A9⟩
    rcases List.mem_cons.mp hm with e | hm
    · cases e; exact ⟨_, _, A10⟩
    rcases List.mem_cons.mp hm with e | hm
    · cases e; exact ⟨_, _, A11⟩
    rcases List.mem_cons.mp hm with e | hm
    · cases e; exact ⟨_, _, A12⟩
    rcases List.mem_cons.mp hm with e | hm
    · cases e; exact ⟨_, _, A13⟩
    rcases List.mem_cons.mp hm with e | hm
    · cases e; exact ⟨_, _, A14⟩
    rcases List.mem_cons.mp hm with e | hm
    · cases e; exact ⟨_, _, A15⟩
    rcases List.mem_cons.mp hm with e | hm
    · cases e; exact ⟨_, _, A16⟩
    rcases List.mem_cons.mp hm with e | hm
    · cases e; exact ⟨_, _, A17⟩
    rcases List.mem_cons.mp hm with e | hm
    · cases e; exact ⟨_, _, A18⟩
    rcases List.mem_cons.mp hm with e | hm
    · cases e; exact ⟨_, _, A19⟩
    rcases List.mem_cons.mp hm with e | hm
    · cases e; exact ⟨_, _, A20⟩
    rcases List.mem_cons.mp hm with e | hm
    · cases e; exact ⟨_, _, A21⟩
    rcases List.mem_cons.mp hm with e | hm
    · cases e; exact ⟨_, _, A22⟩
    rcases List.mem_cons.mp hm with e | hm
    · cases e; exact ⟨_, _, A23⟩
    rcases List.mem_cons.mp hm with e | hm
    · cases e; exact ⟨_, _, A24⟩
    exact nomatch hm
  have hb : ∀ n ∈ bnames, mg (Str.ofString n) = none := by
    intro n hm
    unfold bnames at hm
    rcases List.mem_cons.mp hm with e | hm
    · cases e; exact PySem.W.mg_none_of KX G z0
    rcases List.mem_cons.mp hm with e | hm
    · cases e; exact PySem.W.mg_none_of KX G z1
    rcases List.mem_cons.mp hm with e | hm
    · cases e; exact PySem.W.mg_none_of KX G z2
    rcases List.mem_cons.mp hm with e | hm
    · cases e; exact PySem.W.mg_none_of KX G z3
    rcases List.mem_cons.mp hm with e | hm
    · cases e; exact PySem.W.mg_none_of KX G z4
    rcases List.mem_cons.mp hm with e | hm
    · cases e; exact PySem.W.mg_none_of KX G z5
    rcases List.mem_cons.mp hm with e | hm
    · cases e; exact PySem.W.mg_none_of KX G z6
    rcases List.mem_cons.mp hm with e | hm
    · cases e; exact PySem.W.mg_none_of KX G z7
    rcases List.mem_cons.mp hm with e | hm
    · cases e; exact PySem.W.mg_none_of KX G z8
    rcases List.mem_cons.mp hm with e | hm
    · cases e; exact PySem.W.mg_none_of KX G z9
    rcases List.mem_cons.mp hm with e | hm
    · cases e; exact PySem.W.mg_none_of KX G z10
    rcases List.mem_cons.mp hm with e | hm
    · cases e; exact PySem.W.mg_none_of KX G z11
    rcases List.mem_cons.mp hm with e | hm
    · cases e; exact PySem.W.mg_none_of KX G z12
    rcases List.mem_cons.mp hm with e | hm
    · cases e; exact PySem.W.mg_none_of KX G z13
    rcases List.mem_cons.mp hm with e | hm
    · cases e; exact PySem.W.mg_none_of KX G z14
    rcases List.mem_cons.mp hm with e | hm
    · cases e; exact PySem.W.mg_none_of KX G z15
    rcases List.mem_cons.mp hm with e | hm
    · cases e; exact PySem.W.mg_none_of KX G z16
    rcases List.mem_cons.mp hm with e | hm
    · cases e; exact PySem.W.mg_none_of KX G z17
    exact nomatch hm
  letI : Tabs := ⟨[gP0, gP3]⟩
  have gd : ∀ base : Heap, Mi.Gd P w K mg base Ψ := by
    intro base
    refine ⟨fun s i h => ?_, fun c fs h => ?_, fun d h => ?_⟩
    · have hm := lookup_memS h
      unfold consts at hm
      rcases List.mem_cons.mp hm with e | hm
      · cases e; exact ⟨_, PySem.W.mg_of KX G s0, (⟨_, rfl⟩ : RelV (.str (Str.ofString "0123456789")) _)⟩
      rcases List.mem_cons.mp hm with e | hm
      · cases e; exact ⟨_, PySem.W.mg_of KX G s1, (⟨_, rfl⟩ : RelV (.int 9) _)⟩
      rcases List.mem_cons.mp hm with e | hm
      · cases e; exact ⟨_, PySem.W.mg_of KX G s2, (⟨_, rfl⟩ : RelV (.int 60) _)⟩
      rcases List.mem_cons.mp hm with e | hm
      · cases e; exact ⟨_, PySem.W.mg_of KX G s3, (⟨_, rfl⟩ : RelV (.int 1440) _)⟩
      rcases List.mem_cons.mp hm with e | hm
      · cases e; exact ⟨_, PySem.W.mg_of KX G s4, (⟨_, rfl⟩ : RelV (.int 24) _)⟩
      exact nomatch hm
    · have hm := lookup_memS h
      unfold excs at hm
      rcases List.mem_cons.mp hm with e | hm
      · cases e; exact x_BadLine (xk_mk KX G x1X0 x2X0 x3X0 x4X0 x5X0 x6X0 x7X0 x8X0 x9X0 y1X0 y2X0 y3X0 y4X0 y5X0 y6X0 e1 e2 y9X0 e3 z2X0 z3X0 z4X0 z5X0 z6X0 z7X0 z8X0) no0X0 no1X0
      exact nomatch hm
    · have hd : d = "BadLine" ∨ d = "ComeError" := by
        unfold Tx.hn at h
        rcases Bool.or_eq_true_iff.mp h with h | h
        · obtain ⟨fs, hfs⟩ := Option.isSome_iff_exists.mp h
          have hm := lookup_memS hfs
          unfold excs at hm
          rcases List.mem_cons.mp hm with e | hm
          · cases e; simp
          exact nomatch hm
        · have e := eq_of_beq (Bool.and_eq_true_iff.mp h).2
          simp [e]
      rcases hd with rfl | rfl
      · refine ⟨_, PySem.W.mg_of KX G x1X0, fun c fs hc => ?_⟩
        have hm := lookup_memS hc
        unfold excs at hm
        rcases List.mem_cons.mp hm with e | hm
        · cases e; exact ⟨_, PySem.W.mg_of KX G x1X0, m0_0.trans (by decide +kernel)⟩
        exact nomatch hm
      · refine ⟨_, PySem.W.mg_of KX G e0, fun c fs hc => ?_⟩
        have hm := lookup_memS hc
        unfold excs at hm
        rcases List.mem_cons.mp hm with e | hm
        · cases e; exact ⟨_, PySem.W.mg_of KX G x1X0, m0_E.trans (by decide +kernel)⟩
        exact nomatch hm
  have X0 : GxA K f0 gc0 gP0 := ⟨⟨_, _, _, _, _, _, l0, rfl, rfl, g0a, g0b⟩, g0c, g0d⟩
  have X3 : GxA K f3 gc3 gP3 := ⟨⟨_, _, _, _, _, _, l3, rfl, rfl, g3a, g3b⟩, g3c, g3d⟩
  have hm1 : ∀ {φ : Addr × Addr → Prop}, φ (gc0, gP0) → φ (gc3, gP3) → True → ∀ p ∈ ([(gc0, gP0), (gc3, gP3)] : List (Addr × Addr)), φ p := by
    intro φ b0 b3 _ p hp
    rcases List.mem_cons.mp hp with e | hp
    · rw [e]; exact b0
    rcases List.mem_cons.mp hp with e | hp
    · rw [e]; exact b3
    exact nomatch hp
  refine ⟨PySem.W.fnOf (Str.ofString "law") (Str.ofString "law") (defArgs t_law.st) (defBody t_law.st) (defScope t_law.st) .none kV24 dc24 pm24 an24 cd24 ct24, [(gc0, gP0), (gc3, gP3)], Mi.spLaw 63 K, ?_, ?_, ?_, fun s v => .of_eq rfl, ?_, fun base _ _ tb => law_ok (gd base) ?_ chk_all ha hb rfl A24 rfl plain⟩
  · have hr : ∀ x ∈ (["are_figures", "told_time"] : List String), ((recsOf q).any fun e => e.name == Str.ofString x) = true := List.all_eq_true.mp hrec
    exact hm1 (X0.tbl (own _ (hr "are_figures" (by simp)) _ (PySem.W.mg_of KX G a0))) (X3.tbl (own _ (hr "told_time" (by simp)) _ (PySem.W.mg_of KX G a3))) trivial
  · exact hm1 X0.no X3.no trivial
  · exact hm1 (PySem.W.codeHd_of_K KX X0.hd) (PySem.W.codeHd_of_K KX X3.hd) trivial
  · intro H a ns hl _ hT hS
    have hB : ∀ b ∈ Tabs.T, H b = some (.tbl #[]) := by
      intro b hb
      have hb : b ∈ ([gP0, gP3] : List Addr) := hb
      rcases List.mem_cons.mp hb with e | hb
      · rw [e]; exact hT (gc0, gP0) (by simp)
      rcases List.mem_cons.mp hb with e | hb
      · rw [e]; exact hT (gc3, gP3) (by simp)
      exact nomatch hb
    exact ⟨a, ns, rfl, hl, hB, hS, fun _ => rfl⟩
  · intro f t a fd hf A hx
    have hm := lookup_mem hf
    unfold tabs at hm
    rcases List.mem_cons.mp hm with e | hm
    · cases e
      have ea := A.m.symm.trans A0.m
      cases ea
      obtain ⟨_, _, _, _, _, _, _, _, _, efd, lk, _⟩ := A.fn.ex
      rw [l0] at lk
      cases lk
      exact ⟨gc0, gP0, rfl, gx_tab (tb (gc0, gP0) (by simp)), by show gP0 ∈ ([gP0, gP3] : List Addr); simp⟩
    rcases List.mem_cons.mp hm with e | hm
    · cases e; exact absurd hx (by decide)
    rcases List.mem_cons.mp hm with e | hm
    · cases e; exact absurd hx (by decide)
    rcases List.mem_cons.mp hm with e | hm
    · cases e
      have ea := A.m.symm.trans A3.m
      cases ea
      obtain ⟨_, _, _, _, _, _, _, _, _, efd, lk, _⟩ := A.fn.ex
      rw [l3] at lk
      cases lk
      exact ⟨gc3, gP3, rfl, gx_tab (tb (gc3, gP3) (by simp)), by show gP3 ∈ ([gP0, gP3] : List Addr); simp⟩
    rcases List.mem_cons.mp hm with e | hm
    · cases e; exact absurd hx (by decide)
    rcases List.mem_cons.mp hm with e | hm
    · cases e; exact absurd hx (by decide)
    rcases List.mem_cons.mp hm with e | hm
    · cases e; exact absurd hx (by decide)
    rcases List.mem_cons.mp hm with e | hm
    · cases e; exact absurd hx (by decide)
    rcases List.mem_cons.mp hm with e | hm
    · cases e; exact absurd hx (by decide)
    rcases List.mem_cons.mp hm with e | hm
    · cases e; exact absurd hx (by decide)
    rcases List.mem_cons.mp hm with e | hm
    · cases e; exact absurd hx (by decide)
    rcases List.mem_cons.mp hm with e | hm
    · cases e; exact absurd hx (by decide)
    rcases List.mem_cons.mp hm with e | hm
    · cases e; exact absurd hx (by decide)
    rcases List.mem_cons.mp hm with e | hm
    · cases e; exact absurd hx (by decide)
    rcases List.mem_cons.mp hm with e | hm
    · cases e; exact absurd hx (by decide)
    rcases List.mem_cons.mp hm with e | hm
    · cases e; exact absurd hx (by decide)
    rcases List.mem_cons.mp hm with e | hm
    · cases e; exact absurd hx (by decide)
    rcases List.mem_cons.mp hm with e | hm
    · cases e; exact absurd hx (by decide)
    rcases List.mem_cons.mp hm with e | hm
    · cases e; exact absurd hx (by decide)
    rcases List.mem_cons.mp hm with e | hm
    · cases e; exact absurd hx (by decide)
    rcases List.mem_cons.mp hm with e | hm
    · cases e; exact absurd hx (by decide)
    rcases List.mem_cons.mp hm with e | hm
    · cases e; exact absurd hx (by decide)
    rcases List.mem_cons.mp hm with e | hm
    · cases e; exact absurd hx (by decide)
    rcases List.mem_cons.mp hm with e | hm
    · cases e; exact absurd hx (by decide)
    rcases List.mem_cons.mp hm with e | hm
    · cases e; exact absurd hx (by decide)
    exact nomatch hm
end
end K03
open PySem PySem.W PyProof.Rows
set_option maxHeartbeats 0 in
theorem PySem.Challenge.cw_whoevercomesfirst_k03_times_holds : PySem.Challenge.rw_whoevercomesfirst_k03_times.Holds := by
  w_on; o_law; k_head; (case hw => w_witness2)
  k_fill
  refine Mi.walk_all (l := PySem.Challenge.rw_whoevercomesfirst_k03_times) (n := 63) (k := 82) (x := Str.ofString "script") (CX := fun w => L2.CX PySem.Challenge.rw_whoevercomesfirst_k03_times.prog w) rfl (by decide) rfl ⟨rfl, by decide, by decide⟩ (fun w h Y => PySem.W.kIn_of Y) ?F (fun _ _ _ _ _ h => Mi.cx_no h)
  case F =>
    intro w mg fa h Y KX G hmg own
    unfold LamX.LawAtS
    refine' K03.all_mk KX G hmg own ?hrec ?a0 ?l0 ?c0 ?k0 ?g0a ?g0b ?g0c ?g0d ?a1 ?l1 ?c1 ?k1 ?a2 ?l2 ?c2 ?k2 ?a3 ?l3 ?c3 ?k3 ?g3a ?g3b ?g3c ?g3d ?a4 ?l4 ?c4 ?k4 ?a5 ?l5 ?c5 ?k5 ?a6 ?l6 ?c6 ?k6 ?a7 ?l7 ?c7 ?k7 ?a8 ?l8 ?c8 ?k8 ?a9 ?l9 ?c9 ?k9 ?a10 ?l10 ?c10 ?k10 ?a11 ?l11 ?c11 ?k11 ?a12 ?l12 ?c12 ?k12 ?a13 ?l13 ?c13 ?k13 ?a14 ?l14 ?c14 ?k14 ?a15 ?l15 ?c15 ?k15 ?a16 ?l16 ?c16 ?k16 ?a17 ?l17 ?c17 ?k17 ?a18 ?l18 ?c18 ?k18 ?a19 ?l19 ?c19 ?k19 ?a20 ?l20 ?c20 ?k20 ?a21 ?l21 ?c21 ?k21 ?a22 ?l22 ?c22 ?k22 ?a23 ?l23 ?c23 ?k23 ?a24 ?l24 ?c24 ?k24 ?z0 ?z1 ?z2 ?z3 ?z4 ?z5 ?z6 ?z7 ?z8 ?z9 ?z10 ?z11 ?z12 ?z13 ?z14 ?z15 ?z16 ?z17 ?x1X0 ?x2X0 ?x3X0 ?x4X0 ?x5X0 ?x6X0 ?x7X0 ?x8X0 ?x9X0 ?y1X0 ?y2X0 ?y3X0 ?y4X0 ?y5X0 ?y6X0 ?y9X0 ?z2X0 ?z3X0 ?z4X0 ?z5X0 ?z6X0 ?z7X0 ?z8X0 ?no0X0 ?no1X0 ?e0 ?e1 ?e2 ?e3 ?m0_0 ?m0_E ?s0 ?s1 ?s2 ?s3 ?s4
    (case hrec => first | decide +kernel | rfl)
    (case a0 => k_is)
    (case l0 => k_is)
    (case c0 => k_is)
    (case k0 => k_is)
    (case g0a => k_is)
    (case g0b => exact rfl)
    (case g0c => first | k_is | exact rfl | decide +kernel)
    (case g0d => first | k_is | exact rfl | kernel_rfl | decide +kernel)
    (case a1 => k_is)
    (case l1 => k_is)
    (case c1 => k_is)
    (case k1 => k_is)
    (case a2 => k_is)
    (case l2 => k_is)
    (case c2 => k_is)
    (case k2 => k_is)
    (case a3 => k_is)
    (case l3 => k_is)
    (case c3 => k_is)
    (case k3 => k_is)
    (case g3a => k_is)
    (case g3b => exact rfl)
    (case g3c => first | k_is | exact rfl | decide +kernel)
    (case g3d => first | k_is | exact rfl | kernel_rfl | decide +kernel)
    (case a4 => k_is)
    (case l4 => k_is)
    (case c4 => k_is)
    (case k4 => k_is)
    (case a5 => k_is)
    (case l5 => k_is)
    (case c5 => k_is)
    (case k5 => k_is)
    (case a6 => k_is)
    (case l6 => k_is)
    (case c6 => k_is)
    (case k6 => k_is)
    (case a7 => k_is)
    (case l7 => k_is)
    (case c7 => k_is)
    (case k7 => k_is)
    (case a8 => k_is)
    (case l8 => k_is)
    (case c8 => k_is)
    (case k8 => k_is)
    (case a9 => k_is)
    (case l9 => k_is)
    (case c9 => k_is)
    (case k9 => k_is)
    (case a10 => k_is)
    (case l10 => k_is)
    (case c10 => k_is)
    (case k10 => k_is)
    (case a11 => k_is)
    (case l11 => k_is)
    (case c11 => k_is)
    (case k11 => k_is)
    (case a12 => k_is)
    (case l12 => k_is)
    (case c12 => k_is)
    (case k12 => k_is)
    (case a13 => k_is)
    (case l13 => k_is)
    (case c13 => k_is)
    (case k13 => k_is)
    (case a14 => k_is)
    (case l14 => k_is)
    (case c14 => k_is)
    (case k14 => k_is)
    (case a15 => k_is)
    (case l15 => k_is)
    (case c15 => k_is)
    (case k15 => k_is)
    (case a16 => k_is)
    (case l16 => k_is)
    (case c16 => k_is)
    (case k16 => k_is)
    (case a17 => k_is)
    (case l17 => k_is)
    (case c17 => k_is)
    (case k17 => k_is)
    (case a18 => k_is)
    (case l18 => k_is)
    (case c18 => k_is)
    (case k18 => k_is)
    (case a19 => k_is)
    (case l19 => k_is)
    (case c19 => k_is)
    (case k19 => k_is)
    (case a20 => k_is)
    (case l20 => k_is)
    (case c20 => k_is)
    (case k20 => k_is)
    (case a21 => k_is)
    (case l21 => k_is)
    (case c21 => k_is)
    (case k21 => k_is)
    (case a22 => k_is)
    (case l22 => k_is)
    (case c22 => k_is)
    (case k22 => k_is)
    (case a23 => k_is)
    (case l23 => k_is)
    (case c23 => k_is)
    (case k23 => k_is)
    (case a24 => k_is)
    (case l24 => k_is)
    (case c24 => k_is)
    (case k24 => k_is)
    (case z0 => k_is)
    (case z1 => k_is)
    (case z2 => k_is)
    (case z3 => k_is)
    (case z4 => k_is)
    (case z5 => k_is)
    (case z6 => k_is)
    (case z7 => k_is)
    (case z8 => k_is)
    (case z9 => k_is)
    (case z10 => k_is)
    (case z11 => k_is)
    (case z12 => k_is)
    (case z13 => k_is)
    (case z14 => k_is)
    (case z15 => k_is)
    (case z16 => k_is)
    (case z17 => k_is)
    (case x1X0 => k_is)
    (case x2X0 => k_is)
    (case x3X0 => exact rfl)
    (case x4X0 => k_is)
    (case x5X0 => k_is)
    (case x6X0 => k_is)
    (case x7X0 => k_is)
    (case x8X0 => k_is)
    (case x9X0 => k_is)
    (case y1X0 => k_is)
    (case y2X0 => k_is)
    (case y3X0 => k_is)
    (case y4X0 => exact rfl)
    (case y5X0 => first | exact rfl | decide +kernel | kernel_rfl)
    (case y6X0 => k_is)
    (case y9X0 => ks_is)
    (case z2X0 => k_is)
    (case z3X0 => k_is)
    (case z4X0 => k_is)
    (case z5X0 => k_is)
    (case z6X0 => k_is)
    (case z7X0 => k_is)
    (case z8X0 => k_is)
    (case no0X0 => k_is)
    (case no1X0 => k_is)
    (case e0 => k_is)
    (case e1 => k_is)
    (case e2 => k_is)
    (case e3 => first | exact rfl | decide +kernel | kernel_rfl)
    (case m0_0 => kts_exm)
    (case m0_E => kts_exm)
    (case s0 => k_is)
    (case s1 => k_is)
    (case s2 => k_is)
    (case s3 => k_is)
    (case s4 => k_is)
