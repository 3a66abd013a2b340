import PyProof.Rows.All
import HandS.ForMost
import HandS.Walk
import HandS.Zip
import HandS.SortInts
import HandS.Deep
import KE.SortData
import HandS.ForExc
import HandS.IsInst
import HandS.TupAny
import HandS.Style
import HandS.Wide
import HandS.RaiseMore
import HandS.TupLen
import PyProof.Rows.InDataRows
import PySem.Challenge.RW_lacednets_k43_whole_words_and_built_nets
set_option Elab.async false
set_option linter.all false
set_option maxRecDepth 100000
set_option maxHeartbeats 4000000
/-! DLA: data beside the heap. A value of the abstract heap that holds a datum (Rep), slots that own what they hold (OwnAt), the state of a def's names as data (EI), and what an expression, a test, a statement does to it (tD, tT, tS). -/
namespace DL
open PySem PySem.Spec PyProof.Rows L2

abbrev Ev := List (Option PyData)

def kD : L2.Key → PyData
  | .inl i => .int i
  | .inr x => .str x
def tpD (k : List L2.Key) : PyData := .tuple (k.map kD)

/-- a list that the top has written -/
def KLst (K : PySem.W.Frag) (a : Addr) (xs : List V) : Prop := ∃ (ob : Obj) (its : Array Value) (n : Nat), K.lookup a = some ob ∧ ob.cls = .type "list" ∧ ob.dict = none ∧ ob.data = .seq its n ∧ its.size ≤ sizeLine ∧ Vals xs its.toList
def LstAt (K : PySem.W.Frag) (H : Hp) (O : Addr → Prop) (a : Addr) (xs : List V) : Prop := (Rd H a (.lst xs) ∧ ¬ O a) ∨ KLst K a xs
theorem LstAt.sq {K : PySem.W.Frag} {H : Hp} {O : Addr → Prop} {a : Addr} {xs : List V} (h : LstAt K H O a xs) : SqL K H a xs := h.imp (·.1) id
theorem LstAt.rd {K : PySem.W.Frag} {H : Hp} {O : Addr → Prop} {a : Addr} {xs : List V} (h : Rd H a (.lst xs)) (n : ¬ O a) : LstAt K H O a xs := .inl ⟨h, n⟩

/-- a dict's keys and values -/
def DctAt (H : Hp) (a : Addr) (ks : List PyData) (xs : List V) : Prop :=
  (∃ l : List (L2.Key × V), Rd H a (.dK l) ∧ ks = l.map (fun p => kD p.1) ∧ xs = l.map (·.2)) ∨
  (∃ l : List (List L2.Key × V), Rd H a (.dT l) ∧ ks = l.map (fun p => tpD p.1) ∧ xs = l.map (·.2))

mutual
def Rep (K : PySem.W.Frag) (H : Hp) (O : Addr → Prop) : PyData → V → Prop
  | .none, v => v = .non
  | .bool b, v => v = .bl b
  | .int i, v => v = .int i
  | .str x, v => v = .str x
  | .list ds, v => ∃ a xs, v = .ref a ∧ LstAt K H O a xs ∧ RepA K H O ds xs
  | .tuple ds, v => ∃ a xs, v = .ref a ∧ SqT K H a xs ∧ RepA K H O ds xs
  | .dict kvs, v => ∃ a xs, v = .ref a ∧ ¬ O a ∧ DctAt H a (kvs.map (·.1)) xs ∧ RepV K H O kvs xs
def RepA (K : PySem.W.Frag) (H : Hp) (O : Addr → Prop) : List PyData → List V → Prop
  | [], xs => xs = []
  | d :: ds, xs => ∃ x r, xs = x :: r ∧ Rep K H O d x ∧ RepA K H O ds r
def RepV (K : PySem.W.Frag) (H : Hp) (O : Addr → Prop) : List (PyData × PyData) → List V → Prop
  | [], xs => xs = []
  | (_, d) :: ds, xs => ∃ x r, xs = x :: r ∧ Rep K H O d x ∧ RepV K H O ds r
end

section
variable {K : PySem.W.Frag} {H H' : Hp} {O O' : Addr → Prop}
theorem RepV_iff : ∀ {kvs : List (PyData × PyData)} {xs : List V}, RepV K H O kvs xs ↔ RepA K H O (kvs.map (·.2)) xs
  | [], xs => by simp only [RepV, List.map_nil, RepA]
  | (k, d) :: r, xs => by
    simp only [RepV, List.map_cons, RepA]
    constructor
    · rintro ⟨x, t, e, h1, h2⟩; exact ⟨x, t, e, h1, RepV_iff.mp h2⟩
    · rintro ⟨x, t, e, h1, h2⟩; exact ⟨x, t, e, h1, RepV_iff.mpr h2⟩
theorem RepA.length : ∀ {ds : List PyData} {xs : List V}, RepA K H O ds xs → ds.length = xs.length
  | [], xs, h => by simp only [RepA] at h; subst h; rfl
  | d :: ds, xs, h => by
    simp only [RepA] at h
    obtain ⟨x, r, rfl, _, h2⟩ := h
    simp only [List.length_cons, h2.length]
theorem RepA.get : ∀ {ds : List PyData} {xs : List V} {i : Nat} {d : PyData}, RepA K H O ds xs → ds[i]? = some d → ∃ x, xs[i]? = some x ∧ Rep K H O d x
  | [], _, _, _, _, e => by simp at e
  | d :: ds, xs, 0, d', h, e => by
    simp only [RepA] at h
    obtain ⟨x, r, rfl, h1, _⟩ := h
    simp at e; subst e
    exact ⟨x, rfl, h1⟩
  | d :: ds, xs, i + 1, d', h, e => by
    simp only [RepA] at h
    obtain ⟨x, r, rfl, _, h2⟩ := h
    obtain ⟨y, e1, e2⟩ := RepA.get (i := i) h2 (by simpa using e)
    exact ⟨y, by simpa using e1, e2⟩
theorem RepA.getX {ds : List PyData} {xs : List V} {i : Nat} {x : V} (h : RepA K H O ds xs) (e : xs[i]? = some x) : ∃ d, ds[i]? = some d ∧ Rep K H O d x := by
  have hl := h.length
  have hi : i < xs.length := (List.getElem?_eq_some_iff.mp e).1
  have hi' : i < ds.length := by omega
  obtain ⟨y, e1, e2⟩ := h.get (List.getElem?_eq_getElem hi')
  rw [e] at e1; cases e1
  exact ⟨_, List.getElem?_eq_getElem hi', e2⟩
theorem RepA.cons {d : PyData} {ds : List PyData} {x : V} {xs : List V} (h1 : Rep K H O d x) (h2 : RepA K H O ds xs) : RepA K H O (d :: ds) (x :: xs) := by
  simp only [RepA]; exact ⟨x, xs, rfl, h1, h2⟩
theorem RepA.nil : RepA K H O [] [] := by simp only [RepA]
theorem RepA.mk : ∀ {ds : List PyData} {xs : List V}, ds.length = xs.length → (∀ (i : Nat) d x, ds[i]? = some d → xs[i]? = some x → Rep K H O d x) → RepA K H O ds xs
  | [], [], _, _ => .nil
  | [], _ :: _, h, _ => by simp at h
  | _ :: _, [], h, _ => by simp at h
  | d :: ds, x :: xs, h, f => .cons (f 0 d x rfl rfl) (RepA.mk (by simpa using h) fun i d x e1 e2 => f (i + 1) d x (by simpa using e1) (by simpa using e2))
theorem RepA.append : ∀ {ds es : List PyData} {xs ys : List V}, RepA K H O ds xs → RepA K H O es ys → RepA K H O (ds ++ es) (xs ++ ys)
  | [], _, _, _, h1, h2 => by simp only [RepA] at h1; subst h1; exact h2
  | d :: ds, _, _, _, h1, h2 => by
    simp only [RepA] at h1
    obtain ⟨x, r, rfl, a, b⟩ := h1
    exact .cons a (b.append h2)
theorem RepA.pick {ds ds' : List PyData} {xs xs' : List V} (h : RepA K H O ds xs) (hl : ds'.length = xs'.length) (f : ∀ (i : Nat), i < ds'.length → ∃ j : Nat, ds'[i]? = ds[j]? ∧ xs'[i]? = xs[j]?) : RepA K H O ds' xs' := by
  refine .mk hl fun i d x e1 e2 => ?_
  have hi : i < ds'.length := (List.getElem?_eq_some_iff.mp e1).1
  obtain ⟨j, f1, f2⟩ := f i hi
  rw [e1] at f1; rw [e2] at f2
  obtain ⟨y, g1, g2⟩ := h.get f1.symm
  rw [g1] at f2; cases f2
  exact g2
theorem RepA.take {ds : List PyData} {xs : List V} (n : Nat) (h : RepA K H O ds xs) : RepA K H O (ds.take n) (xs.take n) := by
  have hl := h.length
  refine h.pick (by simp [hl]) fun i hi => ⟨i, ?_, ?_⟩
  · have : i < n := by simp at hi; omega
    simp [List.getElem?_take, this]
  · have : i < n := by simp at hi; omega
    simp [List.getElem?_take, this]
theorem RepA.drop {ds : List PyData} {xs : List V} (n : Nat) (h : RepA K H O ds xs) : RepA K H O (ds.drop n) (xs.drop n) := by
  have hl := h.length
  exact h.pick (by simp [hl]) fun i hi => ⟨n + i, by simp, by simp⟩
theorem RepA.reverse {ds : List PyData} {xs : List V} (h : RepA K H O ds xs) : RepA K H O ds.reverse xs.reverse := by
  have hl := h.length
  refine h.pick (by simp [hl]) fun i hi => ⟨ds.length - 1 - i, ?_, ?_⟩
  · rw [List.getElem?_reverse (by simpa using hi)]
  · rw [List.getElem?_reverse (by simp at hi; omega), hl]
theorem RepA.set {ds : List PyData} {xs : List V} {d : PyData} {x : V} (n : Nat) (h : RepA K H O ds xs) (r : Rep K H O d x) : RepA K H O (ds.set n d) (xs.set n x) := by
  have hl := h.length
  refine .mk (by simp [hl]) fun i d' x' e1 e2 => ?_
  rw [List.getElem?_set] at e1 e2
  by_cases hn : n = i
  · subst hn
    simp only [if_pos] at e1 e2
    split at e1 <;> split at e2 <;> first | (cases e1; cases e2; exact r) | (exfalso; omega) | simp at e1 | simp at e2
  · simp only [hn, if_false] at e1 e2
    obtain ⟨y, g1, g2⟩ := h.get e1
    rw [g1] at e2; cases e2
    exact g2
end

/-! ### what is owned -/
inductive Kd where
  /-- what is held is never changed -/
  | frz
  /-- a list of one's own (its items are not) -/
  | l1
  /-- a list of one's own of such -/
  | l2
  /-- a dict of one's own, its keys ints and texts; tuples of such -/
  | dk | dt
  /-- the law's source -/
  | src
  deriving DecidableEq

def OO (G : Addr → Prop) (F : List (List Addr)) (a : Addr) : Prop := G a ∨ a ∈ F.flatten

/-- the source's datum -/
def srcD (cells : List Int) (left mixed turn : Int) : PyData :=
  .dict [(.str "cells", .list (cells.map .int)), (.str "left", .int left), (.str "mixed", .int mixed), (.str "turn", .int turn)]

def OwnAt (K : PySem.W.Frag) (H : Hp) (O : Addr → Prop) : Kd → List Addr → PyData → V → Prop
  | .frz, F, d, v => F = [] ∧ Rep K H O d v
  | .l1, F, d, v => ∃ a xs ds, F = [a] ∧ d = .list ds ∧ v = .ref a ∧ H a = some (.lst xs) ∧ RepA K H O ds xs
  | .l2, F, d, v => ∃ a bs dss, F = a :: bs ∧ d = .list (List.map PyData.list dss) ∧ v = .ref a ∧ H a = some (.lst (bs.map V.ref)) ∧ bs.length = dss.length ∧
      ∀ (i : Nat) b ds, bs[i]? = some b → dss[i]? = some ds → ∃ xs, H b = some (.lst xs) ∧ RepA K H O ds xs
  | .dk, F, d, v => ∃ a kvs l, F = [a] ∧ d = .dict kvs ∧ v = .ref a ∧ H a = some (.dK l) ∧ kvs.map (·.1) = l.map (fun p => kD p.1) ∧ RepV K H O kvs (l.map (·.2))
  | .dt, F, d, v => ∃ a kvs l, F = [a] ∧ d = .dict kvs ∧ v = .ref a ∧ H a = some (.dT l) ∧ kvs.map (·.1) = l.map (fun p => tpD p.1) ∧ RepV K H O kvs (l.map (·.2))
  | .src, F, d, v => ∃ a c cells left mixed turn, F = [a, c] ∧ d = srcD cells left mixed turn ∧ v = .ref a ∧
      H a = some (.dK [(Sum.inr "cells", .ref c), (Sum.inr "left", .int left), (Sum.inr "mixed", .int mixed), (Sum.inr "turn", .int turn)]) ∧ H c = some (.lst (cells.map V.int))

/-- no address in two of them, nor twice in one -/
structure Dis (F : List (List Addr)) : Prop where
  own : ∀ (i : Nat) Fi, F[i]? = some Fi → Fi.Nodup
  apart : ∀ (i j : Nat) Fi Fj a, F[i]? = some Fi → F[j]? = some Fj → a ∈ Fi → a ∈ Fj → i = j
theorem mem_flat {F : List (List Addr)} {a : Addr} : a ∈ F.flatten ↔ ∃ (i : Nat) (Fi : List Addr), F[i]? = some Fi ∧ a ∈ Fi := by
  rw [List.mem_flatten]
  constructor
  · rintro ⟨l, h1, h2⟩
    obtain ⟨i, hi⟩ := List.mem_iff_getElem?.mp h1
    exact ⟨i, l, hi, h2⟩
  · rintro ⟨i, l, h1, h2⟩
    exact ⟨l, List.mem_of_getElem? h1, h2⟩
theorem Dis.set {F : List (List Addr)} {i : Nat} {Fi : List Addr} (D : Dis F) (hn : Fi.Nodup) (h : ∀ a ∈ Fi, ∀ (j : Nat) Fj, j ≠ i → F[j]? = some Fj → a ∉ Fj) : Dis (F.set i Fi) where
  own := fun j Fj e => by
    rw [List.getElem?_set] at e
    by_cases hj : i = j
    · subst hj
      simp only [if_pos] at e
      split at e
      · cases e; exact hn
      · cases e
    · rw [if_neg hj] at e
      exact D.own j Fj e
  apart := fun j l Fj Fl a e1 e2 m1 m2 => by
    rw [List.getElem?_set] at e1 e2
    by_cases hj : i = j
    · by_cases hl : i = l
      · exact hj.symm.trans hl
      · rw [if_neg hl] at e2
        subst hj
        simp only [if_pos] at e1
        split at e1
        · cases e1; exact absurd m2 (h a m1 l Fl (Ne.symm hl) e2)
        · cases e1
    · by_cases hl : i = l
      · rw [if_neg hj] at e1
        subst hl
        simp only [if_pos] at e2
        split at e2
        · cases e2; exact absurd m1 (h a m2 j Fj (Ne.symm hj) e1)
        · cases e2
      · rw [if_neg hj] at e1
        rw [if_neg hl] at e2
        exact D.apart j l Fj Fl a e1 e2 m1 m2
theorem mem_set {F : List (List Addr)} {i : Nat} {Fi : List Addr} {a : Addr} (h : a ∈ (F.set i Fi).flatten) : a ∈ Fi ∨ ∃ (j : Nat) (Fj : List Addr), j ≠ i ∧ F[j]? = some Fj ∧ a ∈ Fj := by
  obtain ⟨j, Fj, e, m⟩ := mem_flat.mp h
  rw [List.getElem?_set] at e
  by_cases hj : i = j
  · subst hj
    simp only [if_pos] at e
    split at e
    · cases e; exact .inl m
    · cases e
  · rw [if_neg hj] at e
    exact .inr ⟨j, Fj, Ne.symm hj, e, m⟩
structure EI (K : PySem.W.Frag) (ks : List Kd) (ps : List (Nat × V)) (G : Addr → Prop) (F : List (List Addr)) (σ : L2.St) (H : Hp) (env : Ev) : Prop where
  lF : F.length = ks.length
  lE : env.length = ks.length
  lS : σ.length = ks.length
  nd : Dis F
  tr : ∀ a ∈ F.flatten, H a ≠ none ∧ ¬ G a
  gt : ∀ a, G a → H a ≠ none
  sl : ∀ (i : Nat) d kd, env[i]? = some (some d) → ks[i]? = some kd → ∃ v Fi, σ[i]? = some (some v) ∧ F[i]? = some Fi ∧ OwnAt K H (OO G F) kd Fi d v
  pn : ∀ p ∈ ps, σ[p.1]? = some (some p.2)
  fz : ∀ (i : Nat), ks[i]? = some Kd.frz → F[i]? = some []

structure Stp (F : List (List Addr)) (H : Hp) (F' : List (List Addr)) (H' : Hp) : Prop where
  keep : ∀ a o, H a = some o → a ∉ F.flatten → H' a = some o
  dom : ∀ a, H a ≠ none → H' a ≠ none
  tup : ∀ a xs, H a = some (.tup xs) → H' a = some (.tup xs)
  frz : ∀ a o u, H a = some (.frz o u) → H' a = some (.frz o u)
  new : ∀ a ∈ F'.flatten, a ∈ F.flatten ∨ H a = none

theorem Stp.refl {F : List (List Addr)} {H : Hp} : Stp F H F H := ⟨fun _ _ e _ => e, fun _ e => e, fun _ _ e => e, fun _ _ _ e => e, fun _ h => .inl h⟩
theorem Stp.trans {F F1 F2 : List (List Addr)} {H H1 H2 : Hp} (a : Stp F H F1 H1) (b : Stp F1 H1 F2 H2) : Stp F H F2 H2 where
  keep := fun p o e n => b.keep p o (a.keep p o e n) fun m => by
    rcases a.new p m with q | q
    · exact n q
    · rw [q] at e; cases e
  dom := fun p e => b.dom p (a.dom p e)
  tup := fun p xs e => b.tup p xs (a.tup p xs e)
  frz := fun p o u e => b.frz p o u (a.frz p o u e)
  new := fun p m => by
    rcases b.new p m with q | q
    · exact a.new p q
    · refine .inr ?_
      cases e : H p with
      | none => rfl
      | some o => exact absurd q (a.dom p (by rw [e]; simp))
theorem Stp.same {F : List (List Addr)} {H H' : Hp} (s : Same H H') : Stp F H F H' :=
  ⟨fun a o e _ => s a o e, fun a e => by
    cases q : H a with
    | none => exact absurd q e
    | some o => rw [s a o q]; simp, fun a xs e => s a _ e, fun a o u e => s a _ e, fun _ h => .inl h⟩

/-- what a datum of a value leans on stays -/
structure Kp (O : Addr → Prop) (H : Hp) (O' : Addr → Prop) (H' : Hp) : Prop where
  keep : ∀ a o, H a = some o → ¬ O a → H' a = some o ∧ ¬ O' a
  tup : ∀ a xs, H a = some (.tup xs) → H' a = some (.tup xs)
  frz : ∀ a o u, H a = some (.frz o u) → H' a = some (.frz o u)
theorem Kp.refl {O : Addr → Prop} {H : Hp} : Kp O H O H := ⟨fun _ _ e n => ⟨e, n⟩, fun _ _ e => e, fun _ _ _ e => e⟩
theorem Kp.less {O O' : Addr → Prop} {H : Hp} (h : ∀ a, O' a → O a) : Kp O H O' H := ⟨fun _ _ e n => ⟨e, fun z => n (h _ z)⟩, fun _ _ e => e, fun _ _ _ e => e⟩
theorem Kp.trans {O O1 O2 : Addr → Prop} {H H1 H2 : Hp} (a : Kp O H O1 H1) (b : Kp O1 H1 O2 H2) : Kp O H O2 H2 :=
  ⟨fun p o e n => let ⟨q, m⟩ := a.keep p o e n; b.keep p o q m, fun p xs e => b.tup p xs (a.tup p xs e), fun p o u e => b.frz p o u (a.frz p o u e)⟩
theorem Stp.kp {G : Addr → Prop} {F F' : List (List Addr)} {H H' : Hp} (s : Stp F H F' H') : Kp (OO G F) H (OO G F') H' where
  keep := fun a o e n => ⟨s.keep a o e fun m => n (.inr m), fun z => by
    rcases z with z | z
    · exact n (.inl z)
    · rcases s.new a z with q | q
      · exact n (.inr q)
      · rw [q] at e; cases e⟩
  tup := s.tup
  frz := s.frz
theorem Same.kp {O : Addr → Prop} {H H' : Hp} (s : Same H H') : Kp O H O H' := ⟨fun a o e n => ⟨s a o e, n⟩, fun a _ e => s a _ e, fun a _ _ e => s a _ e⟩

section
variable {K : PySem.W.Frag} {H H' : Hp} {O O' : Addr → Prop}
theorem SqT.kp (k : Kp O H O' H') {a : Addr} {xs : List V} (h : SqT K H a xs) : SqT K H' a xs := by
  rcases h with (h | ⟨o, h⟩) | h
  · exact .inl (.inl (k.tup _ _ h))
  · exact .inl (.inr ⟨o, k.frz _ _ _ h⟩)
  · exact .inr h
theorem LstAt.kp (k : Kp O H O' H') {a : Addr} {xs : List V} (h : LstAt K H O a xs) : LstAt K H' O' a xs := by
  rcases h with ⟨h | ⟨o, h⟩, n⟩ | h
  · obtain ⟨e, m⟩ := k.keep _ _ h n
    exact .rd (.inl e) m
  · obtain ⟨e, m⟩ := k.keep _ _ h n
    exact .rd (.inr ⟨o, e⟩) m
  · exact .inr h
theorem DctAt.kp (k : Kp O H O' H') {a : Addr} {ds : List PyData} {xs : List V} (n : ¬ O a) (h : DctAt H a ds xs) : ¬ O' a ∧ DctAt H' a ds xs := by
  rcases h with ⟨l, h | ⟨o, h⟩, e⟩ | ⟨l, h | ⟨o, h⟩, e⟩
  · obtain ⟨e1, m⟩ := k.keep _ _ h n
    exact ⟨m, .inl ⟨l, .inl e1, e⟩⟩
  · obtain ⟨e1, m⟩ := k.keep _ _ h n
    exact ⟨m, .inl ⟨l, .inr ⟨o, e1⟩, e⟩⟩
  · obtain ⟨e1, m⟩ := k.keep _ _ h n
    exact ⟨m, .inr ⟨l, .inl e1, e⟩⟩
  · obtain ⟨e1, m⟩ := k.keep _ _ h n
    exact ⟨m, .inr ⟨l, .inr ⟨o, e1⟩, e⟩⟩
mutual
theorem Rep.kp (k : Kp O H O' H') : ∀ {d : PyData} {v : V}, Rep K H O d v → Rep K H' O' d v
  | .none, v, h => by simp only [Rep] at h ⊢; exact h
  | .bool b, v, h => by simp only [Rep] at h ⊢; exact h
  | .int i, v, h => by simp only [Rep] at h ⊢; exact h
  | .str x, v, h => by simp only [Rep] at h ⊢; exact h
  | .list ds, v, h => by
    simp only [Rep] at h ⊢
    obtain ⟨a, xs, e, h1, h2⟩ := h
    exact ⟨a, xs, e, h1.kp k, RepA.kp k h2⟩
  | .tuple ds, v, h => by
    simp only [Rep] at h ⊢
    obtain ⟨a, xs, e, h1, h2⟩ := h
    exact ⟨a, xs, e, SqT.kp k h1, RepA.kp k h2⟩
  | .dict kvs, v, h => by
    simp only [Rep] at h ⊢
    obtain ⟨a, xs, e, n, h1, h2⟩ := h
    obtain ⟨m, h1⟩ := h1.kp k n
    exact ⟨a, xs, e, m, h1, RepV.kp k h2⟩
theorem RepA.kp (k : Kp O H O' H') : ∀ {ds : List PyData} {xs : List V}, RepA K H O ds xs → RepA K H' O' ds xs
  | [], xs, h => by simp only [RepA] at h ⊢; exact h
  | d :: ds, xs, h => by
    simp only [RepA] at h ⊢
    obtain ⟨x, r, e, h1, h2⟩ := h
    exact ⟨x, r, e, Rep.kp k h1, RepA.kp k h2⟩
theorem RepV.kp (k : Kp O H O' H') : ∀ {ds : List (PyData × PyData)} {xs : List V}, RepV K H O ds xs → RepV K H' O' ds xs
  | [], xs, h => by simp only [RepV] at h ⊢; exact h
  | (_, d) :: ds, xs, h => by
    simp only [RepV] at h ⊢
    obtain ⟨x, r, e, h1, h2⟩ := h
    exact ⟨x, r, e, Rep.kp k h1, RepV.kp k h2⟩
end
theorem OwnAt.kp (k : Kp O H O' H') {kd : Kd} {F : List Addr} {d : PyData} {v : V} (hF : ∀ a ∈ F, ∀ o, H a = some o → H' a = some o) (h : OwnAt K H O kd F d v) : OwnAt K H' O' kd F d v := by
  cases kd with
  | frz => exact ⟨h.1, h.2.kp k⟩
  | l1 =>
    obtain ⟨a, xs, ds, rfl, e1, e2, e3, r⟩ := h
    exact ⟨a, xs, ds, rfl, e1, e2, hF a (by simp) _ e3, r.kp k⟩
  | l2 =>
    obtain ⟨a, bs, dss, rfl, e1, e2, e3, el, r⟩ := h
    refine ⟨a, bs, dss, rfl, e1, e2, hF a (by simp) _ e3, el, fun i b ds g1 g2 => ?_⟩
    obtain ⟨xs, q1, q2⟩ := r i b ds g1 g2
    exact ⟨xs, hF b (List.mem_cons_of_mem _ (List.mem_of_getElem? g1)) _ q1, q2.kp k⟩
  | dk =>
    obtain ⟨a, kvs, l, rfl, e1, e2, e3, e4, r⟩ := h
    exact ⟨a, kvs, l, rfl, e1, e2, hF a (by simp) _ e3, e4, RepV.kp k r⟩
  | dt =>
    obtain ⟨a, kvs, l, rfl, e1, e2, e3, e4, r⟩ := h
    exact ⟨a, kvs, l, rfl, e1, e2, hF a (by simp) _ e3, e4, RepV.kp k r⟩
  | src =>
    obtain ⟨a, c, cells, left, mixed, turn, rfl, e1, e2, e3, e4⟩ := h
    exact ⟨a, c, cells, left, mixed, turn, rfl, e1, e2, hF a (by simp) _ e3, hF c (by simp) _ e4⟩
end

section
variable {K : PySem.W.Frag} {ks : List Kd} {ps : List (Nat × V)} {G : Addr → Prop} {F F' : List (List Addr)} {σ : L2.St} {H H' : Hp} {env : Ev}
theorem EI.same (I : EI K ks ps G F σ H env) (s : Same H H') : EI K ks ps G F σ H' env where
  lF := I.lF
  lE := I.lE
  lS := I.lS
  nd := I.nd
  tr := fun a h => ⟨(Stp.same (F := F) s).dom a (I.tr a h).1, (I.tr a h).2⟩
  gt := fun a h => (Stp.same (F := F) s).dom a (I.gt a h)
  sl := fun i d kd h1 h2 => by
    obtain ⟨v, Fi, e1, e2, o⟩ := I.sl i d kd h1 h2
    exact ⟨v, Fi, e1, e2, o.kp (Same.kp s) fun a _ ob e => s a ob e⟩
  pn := I.pn
  fz := I.fz
/-- a slot of the env that is not owned -/
theorem EI.at_frz (I : EI K ks ps G F σ H env) {i : Nat} {d : PyData} (h1 : env[i]? = some (some d)) (h2 : ks[i]? = some .frz) : ∃ v, σ[i]? = some (some v) ∧ Rep K H (OO G F) d v := by
  obtain ⟨v, Fi, e1, e2, o⟩ := I.sl i d _ h1 h2
  exact ⟨v, e1, o.2⟩
end

/-! ### readings over data -/
def tD (K : PySem.W.Frag) (ks : List Kd) (ps : List (Nat × V)) (m : Ev → Option (PyData × Ev)) : TE := fun σ H Q => ∃ G F env d env', EI K ks ps G F σ H env ∧ m env = some (d, env') ∧
  ∀ v F' H', Stp F H F' H' → EI K ks ps G F' σ H' env' → Rep K H' (OO G F') d v → Q v H'
def tT (K : PySem.W.Frag) (ks : List Kd) (ps : List (Nat × V)) (m : Ev → Option (Bool × Ev)) : TT := fun σ H Q => ∃ G F env b env', EI K ks ps G F σ H env ∧ m env = some (b, env') ∧
  ∀ F' H', Stp F H F' H' → EI K ks ps G F' σ H' env' → Q b H'
def tA (K : PySem.W.Frag) (ks : List Kd) (ps : List (Nat × V)) (m : Ev → Option (List PyData × Ev)) : TA := fun σ H Q => ∃ G F env ds env', EI K ks ps G F σ H env ∧ m env = some (ds, env') ∧
  ∀ vs F' H', Stp F H F' H' → EI K ks ps G F' σ H' env' → RepA K H' (OO G F') ds vs → Q vs H'
inductive Out where
  | nx (env : Ev) | rt (d : PyData) (env : Ev) | bk (env : Ev) | ct (env : Ev)
def tS (K : PySem.W.Frag) (ks : List Kd) (ps : List (Nat × V)) (rk : Kd) (m : Ev → Option Out) : TS := fun D σ H => ∃ G F env o, EI K ks ps G F σ H env ∧ m env = some o ∧
  match o with
  | .nx e => ∀ σ' F' H', Stp F H F' H' → EI K ks ps G F' σ' H' e → D.nx σ' H'
  | .rt d e => ∀ v σ' F' H' Fr, Stp F H F' H' → EI K ks ps (fun a => G a ∨ a ∈ Fr) F' σ' H' e → OwnAt K H' (OO (fun a => G a ∨ a ∈ Fr) F') rk Fr d v → Fr.Nodup → (∀ a ∈ Fr, ¬ G a ∧ (a ∈ F.flatten ∨ H a = none)) → D.rt v H'
  | .bk e => ∀ σ' F' H', Stp F H F' H' → EI K ks ps G F' σ' H' e → D.bk σ' H'
  | .ct e => ∀ σ' F' H', Stp F H F' H' → EI K ks ps G F' σ' H' e → D.ct σ' H'
theorem Stp.back {F F' : List (List Addr)} {H H' : Hp} (S : Stp F H F' H') {p : Addr} (hp : H' p = none) : H p = none := by
  cases z : H p with
  | none => rfl
  | some o => exact absurd hp (S.dom p (by rw [z]; simp))

theorem Stp.nw {F F' : List (List Addr)} {H H' : Hp} (S : Stp F H F' H') {p : Addr} (h : p ∈ F'.flatten ∨ H' p = none) : p ∈ F.flatten ∨ H p = none := h.elim (S.new p) fun z => .inr (S.back z)

abbrev ED (X : Cx) (ks : List Kd) (ps : List (Nat × V)) (e : Expr) (m : Ev → Option (PyData × Ev)) : Prop := PE X e (tD X.K ks ps m)
abbrev TD (X : Cx) (ks : List Kd) (ps : List (Nat × V)) (e : Expr) (m : Ev → Option (Bool × Ev)) : Prop := PT X e (tT X.K ks ps m)
abbrev WD (X : Cx) (ks : List Kd) (ps : List (Nat × V)) (e : Expr) (m : Ev → Option (Bool × Ev)) : Prop := PW X e (tT X.K ks ps m)
abbrev AD (X : Cx) (ks : List Kd) (ps : List (Nat × V)) (es : List Expr) (m : Ev → Option (List PyData × Ev)) : Prop := PA X es (tA X.K ks ps m)
abbrev SD (X : Cx) (ks : List Kd) (ps : List (Nat × V)) (rk : Kd) (st : Stmt) (m : Ev → Option Out) : Prop := PS X st (tS X.K ks ps rk m)
abbrev SsD (X : Cx) (ks : List Kd) (ps : List (Nat × V)) (rk : Kd) (st : List Stmt) (m : Ev → Option Out) : Prop := PSs X st (tS X.K ks ps rk m)

theorem PE.imp {X : Cx} {e : Expr} {t t' : TE} (h : PE X e t) (w : ∀ σ H Q, t' σ H Q → t σ H Q) : PE X e t' := ⟨fun pins s σ H Q I q => h.run pins s σ H Q I (w σ H Q q)⟩
theorem PT.imp {X : Cx} {e : Expr} {t t' : TT} (h : PT X e t) (w : ∀ σ H Q, t' σ H Q → t σ H Q) : PT X e t' := ⟨fun pins s σ H Q I q => h.run pins s σ H Q I (w σ H Q q)⟩
theorem PW.imp {X : Cx} {e : Expr} {t t' : TT} (h : PW X e t) (w : ∀ σ H Q, t' σ H Q → t σ H Q) : PW X e t' := ⟨fun wh pins s σ H Q I q => h.run wh pins s σ H Q I (w σ H Q q)⟩
theorem PA.imp {X : Cx} {es : List Expr} {t t' : TA} (h : PA X es t) (w : ∀ σ H Q, t' σ H Q → t σ H Q) : PA X es t' := ⟨fun pos pins s σ H Q I q => h.run pos pins s σ H Q I (w σ H Q q)⟩
theorem PS.imp {X : Cx} {st : Stmt} {t t' : TS} (h : PS X st t) (w : ∀ D σ H, t' D σ H → t D σ H) : PS X st t' := ⟨fun pins s σ H D I q => h.run pins s σ H D I (w D σ H q)⟩
theorem PSs.imp {X : Cx} {st : List Stmt} {t t' : TS} (h : PSs X st t) (w : ∀ D σ H, t' D σ H → t D σ H) : PSs X st t' := ⟨fun pins s σ H D I q => h.run pins s σ H D I (w D σ H q)⟩

/-! ### the monad -/
abbrev M (α : Type) := Ev → Option (α × Ev)
def ret {α : Type} (a : α) : M α := fun e => some (a, e)
def bnd {α β : Type} (m : M α) (f : α → M β) : M β := fun e => match m e with
  | none => none
  | some (a, e') => f a e'
def lft {α : Type} (o : Option α) : M α := fun e => match o with
  | none => none
  | some a => some (a, e)
theorem bnd_some {α β : Type} {m : M α} {f : α → M β} {e e2 : Ev} {b : β} (h : bnd m f e = some (b, e2)) : ∃ a e1, m e = some (a, e1) ∧ f a e1 = some (b, e2) := by
  unfold bnd at h
  cases q : m e with
  | none => rw [q] at h; cases h
  | some p => obtain ⟨a, e1⟩ := p; rw [q] at h; exact ⟨a, e1, rfl, h⟩
theorem lft_some {α : Type} {o : Option α} {e e2 : Ev} {b : α} (h : lft o e = some (b, e2)) : o = some b ∧ e2 = e := by
  unfold lft at h
  cases o with
  | none => cases h
  | some a => cases h; exact ⟨rfl, rfl⟩
end DL

/-! DLB: expressions over data. -/
namespace DL
open PySem PySem.Spec PyProof.Rows L2

/-! ### operands: a datum, or a slot that owns what it holds -/
inductive Opd where
  | val (d : PyData) | slot (i : Nat)
def Opd.get : Opd → Ev → Option PyData
  | .val d, _ => some d
  | .slot i, e => match e[i]? with
    | some (some d) => some d
    | _ => none
def Opd.own : Opd → Bool
  | .val _ => false
  | .slot _ => true
def getAll : List Opd → Ev → Option (List PyData)
  | [], _ => some []
  | o :: r, e => match o.get e with
    | none => none
    | some d => match getAll r e with
      | none => none
      | some ds => some (d :: ds)

mutual
/-- nothing in it may change -/
def imm : PyData → Bool
  | .none | .bool _ | .int _ | .str _ => true
  | .tuple xs => immA xs
  | .list _ | .dict _ => false
def immA : List PyData → Bool
  | [] => true
  | x :: xs => imm x && immA xs
end
section
variable {K : PySem.W.Frag} {H : Hp} {O O' : Addr → Prop}
mutual
theorem Rep.imm : ∀ {d : PyData} {v : V}, DL.imm d = true → Rep K H O d v → Rep K H O' d v
  | .none, v, _, h => by simp only [Rep] at h ⊢; exact h
  | .bool b, v, _, h => by simp only [Rep] at h ⊢; exact h
  | .int i, v, _, h => by simp only [Rep] at h ⊢; exact h
  | .str x, v, _, h => by simp only [Rep] at h ⊢; exact h
  | .list ds, v, i, h => by simp only [DL.imm] at i; cases i
  | .tuple ds, v, i, h => by
    simp only [Rep] at h ⊢
    simp only [DL.imm] at i
    obtain ⟨a, xs, e, h1, h2⟩ := h
    exact ⟨a, xs, e, h1, RepA.imm i h2⟩
  | .dict kvs, v, i, h => by simp only [DL.imm] at i; cases i
theorem RepA.imm : ∀ {ds : List PyData} {xs : List V}, immA ds = true → RepA K H O ds xs → RepA K H O' ds xs
  | [], xs, _, h => by simp only [RepA] at h ⊢; exact h
  | d :: ds, xs, i, h => by
    simp only [RepA] at h ⊢
    simp only [immA, Bool.and_eq_true] at i
    obtain ⟨x, r, e, h1, h2⟩ := h
    exact ⟨x, r, e, Rep.imm i.1 h1, RepA.imm i.2 h2⟩
end
end

/-- the operand is v -/
def HoldsO (K : PySem.W.Frag) (ks : List Kd) (G : Addr → Prop) (F : List (List Addr)) (σ : L2.St) (H : Hp) : Opd → V → Prop
  | .val d, v => Rep K H (OO G F) d v
  | .slot i, v => σ[i]? = some (some v)
def HoldsA (K : PySem.W.Frag) (ks : List Kd) (G : Addr → Prop) (F : List (List Addr)) (σ : L2.St) (H : Hp) : List Opd → List V → Prop
  | [], xs => xs = []
  | o :: r, xs => ∃ x t, xs = x :: t ∧ HoldsO K ks G F σ H o x ∧ HoldsA K ks G F σ H r t
section
variable {K : PySem.W.Frag} {ks : List Kd} {ps : List (Nat × V)} {G : Addr → Prop} {F F' : List (List Addr)} {σ : L2.St} {H H' : Hp} {env : Ev}
theorem HoldsO.stp {o : Opd} {v : V} (s : Stp F H F' H') (h : HoldsO K ks G F σ H o v) : HoldsO K ks G F' σ H' o v := by
  cases o with
  | val d => exact Rep.kp s.kp h
  | slot i => exact h
theorem HoldsA.stp (s : Stp F H F' H') : ∀ {os : List Opd} {vs : List V}, HoldsA K ks G F σ H os vs → HoldsA K ks G F' σ H' os vs
  | [], _, h => h
  | o :: r, _, h => by
    obtain ⟨x, t, e, h1, h2⟩ := h
    exact ⟨x, t, e, h1.stp s, HoldsA.stp s h2⟩

/-- what is owned, read as data that keeps apart from P -/
theorem OwnAt.repP {O P : Addr → Prop} {kd : Kd} {Fi : List Addr} {d : PyData} {v : V} (hP : ∀ a, P a → O a) (hF : ∀ a ∈ Fi, ¬ P a) (h : OwnAt K H O kd Fi d v) : Rep K H P d v := by
  have k : Kp O H P H := .less hP
  cases kd with
  | frz => exact Rep.kp k h.2
  | l1 =>
    obtain ⟨a, xs, ds, rfl, rfl, rfl, e, r⟩ := h
    simp only [Rep]
    exact ⟨a, xs, rfl, LstAt.rd (.inl e) (hF a (by simp)), RepA.kp k r⟩
  | l2 =>
    obtain ⟨a, bs, dss, rfl, rfl, rfl, e, el, r⟩ := h
    simp only [Rep]
    refine ⟨a, _, rfl, LstAt.rd (.inl e) (hF a (by simp)), .mk (by simp [el]) fun i d x e1 e2 => ?_⟩
    rw [List.getElem?_map] at e1 e2
    cases g1 : bs[i]? with
    | none => rw [g1] at e2; cases e2
    | some b =>
      cases g2 : dss[i]? with
      | none => rw [g2] at e1; cases e1
      | some ds =>
        rw [g1] at e2; rw [g2] at e1; cases e1; cases e2
        obtain ⟨xs, q1, q2⟩ := r i b ds g1 g2
        simp only [Rep]
        exact ⟨b, xs, rfl, LstAt.rd (.inl q1) (hF b (List.mem_cons_of_mem _ (List.mem_of_getElem? g1))), RepA.kp k q2⟩
  | dk =>
    obtain ⟨a, kvs, l, rfl, rfl, rfl, e, e4, r⟩ := h
    simp only [Rep]
    exact ⟨a, _, rfl, hF a (by simp), .inl ⟨l, .inl e, e4, rfl⟩, RepV.kp k r⟩
  | dt =>
    obtain ⟨a, kvs, l, rfl, rfl, rfl, e, e4, r⟩ := h
    simp only [Rep]
    exact ⟨a, _, rfl, hF a (by simp), .inr ⟨l, .inl e, e4, rfl⟩, RepV.kp k r⟩
  | src =>
    obtain ⟨a, c, cells, left, mixed, turn, rfl, rfl, rfl, e1, e2⟩ := h
    simp only [Rep, srcD]
    refine ⟨a, _, rfl, hF a (by simp), .inl ⟨_, .inl e1, rfl, rfl⟩, ?_⟩
    simp only [List.map_cons, List.map_nil, RepV]
    refine ⟨_, _, rfl, ?_, _, _, rfl, ?_, _, _, rfl, ?_, _, _, rfl, ?_, rfl⟩
    · simp only [Rep]
      refine ⟨c, _, rfl, LstAt.rd (.inl e2) (hF c (by simp)), .mk (by simp) fun i d x g1 g2 => ?_⟩
      rw [List.getElem?_map] at g1 g2
      cases q : cells[i]? with
      | none => rw [q] at g1; cases g1
      | some n => rw [q] at g1 g2; cases g1; cases g2; simp only [Rep]
    · simp only [Rep]
    · simp only [Rep]
    · simp only [Rep]
/-- .. no wish about what else may hold it -/
theorem OwnAt.rep {O : Addr → Prop} {kd : Kd} {Fi : List Addr} {d : PyData} {v : V} (h : OwnAt K H O kd Fi d v) : Rep K H (fun _ => False) d v := h.repP (fun _ z => z.elim) fun _ _ z => z
/-- an operand's datum -/
theorem HoldsO.rep {o : Opd} {v : V} {d : PyData} (I : EI K ks ps G F σ H env) (h : HoldsO K ks G F σ H o v) (e : o.get env = some d) : Rep K H (if o.own then fun _ => False else OO G F) d v := by
  cases o with
  | val d' => cases e; exact h
  | slot i =>
    unfold Opd.get at e
    dsimp only at e
    have hi : ∃ d', env[i]? = some (some d') ∧ d' = d := by
      split at e
      · cases e; exact ⟨_, by assumption, rfl⟩
      · cases e
    obtain ⟨d', e1, rfl⟩ := hi
    have hk : i < ks.length := by
      rw [← I.lE]
      exact (List.getElem?_eq_some_iff.mp e1).1
    obtain ⟨v', Fi, g1, g2, o⟩ := I.sl i d' _ e1 (List.getElem?_eq_getElem hk)
    have : v' = v := by
      have h' : σ[i]? = some (some v) := h
      rw [h'] at g1; cases g1; rfl
    subst this
    exact o.rep
end

/-! ### values in, a value out -/
def Op2 (X : Cx) (f : Value → Value → Sem Value) (g : PyData → PyData → Option PyData) : Prop :=
  OpR X f (fun x y H Q => ∃ O dx dy d, (∀ p, H p = none → ¬ O p) ∧ Rep X.K H O dx x ∧ Rep X.K H O dy y ∧ g dx dy = some d ∧ ∀ v H', Same H H' → Rep X.K H' O d v → Q v H')
def Op1 (X : Cx) (f : Value → Sem Value) (g : PyData → Option PyData) : Prop :=
  UnR X f (fun x H Q => ∃ O dx d, (∀ p, H p = none → ¬ O p) ∧ Rep X.K H O dx x ∧ g dx = some d ∧ ∀ v H', Same H H' → Rep X.K H' O d v → Q v H')
def FnV (X : Cx) (f : Value) (g : List PyData → Option PyData) : Prop :=
  CallR X f (fun xs H Q => ∃ O ds d, (∀ p, H p = none → ¬ O p) ∧ RepA X.K H O ds xs ∧ g ds = some d ∧ ∀ v H', Same H H' → Rep X.K H' O d v → Q v H')

def tR (K : PySem.W.Frag) (ks : List Kd) (ps : List (Nat × V)) (m : M Opd) : TE := fun σ H Q => ∃ G F env o env', EI K ks ps G F σ H env ∧ m env = some (o, env') ∧
  ∀ v F' H', Stp F H F' H' → EI K ks ps G F' σ H' env' → HoldsO K ks G F' σ H' o v → Q v H'
def tAo (K : PySem.W.Frag) (ks : List Kd) (ps : List (Nat × V)) (m : M (List Opd)) : TA := fun σ H Q => ∃ G F env os env', EI K ks ps G F σ H env ∧ m env = some (os, env') ∧
  ∀ vs F' H', Stp F H F' H' → EI K ks ps G F' σ H' env' → HoldsA K ks G F' σ H' os vs → Q vs H'
/-- an operand -/
abbrev RD (X : Cx) (ks : List Kd) (ps : List (Nat × V)) (e : Expr) (m : M Opd) : Prop := PE X e (tR X.K ks ps m)
abbrev AoD (X : Cx) (ks : List Kd) (ps : List (Nat × V)) (es : List Expr) (m : M (List Opd)) : Prop := PA X es (tAo X.K ks ps m)

def mVal (m : M PyData) : M Opd := bnd m fun d => ret (.val d)
def mSlot (i : Nat) : M Opd := fun e => match e[i]? with
  | some (some _) => some (.slot i, e)
  | _ => none
def mVar (i : Nat) : M PyData := fun e => match e[i]? with
  | some (some d) => some (d, e)
  | _ => none
def mA0 : M (List Opd) := ret []
def mA (m : M Opd) (r : M (List Opd)) : M (List Opd) := bnd m fun o => bnd r fun os => ret (o :: os)
def rs1 (g : PyData → Option PyData) (o : Opd) : M PyData := fun e => match o.get e with
  | none => none
  | some d => match g d with
    | none => none
    | some r => if o.own && !imm r then none else some (r, e)
def rs2 (g : PyData → PyData → Option PyData) (o p : Opd) : M PyData := fun e => match o.get e with
  | none => none
  | some d => match p.get e with
    | none => none
    | some d' => match g d d' with
      | none => none
      | some r => if (o.own || p.own) && !imm r then none else some (r, e)
def rsN (g : List PyData → Option PyData) (os : List Opd) : M PyData := fun e => match getAll os e with
  | none => none
  | some ds => match g ds with
    | none => none
    | some r => if os.any Opd.own && !imm r then none else some (r, e)
def mBin (g : PyData → PyData → Option PyData) (ma mb : M Opd) : M PyData := bnd ma fun x => bnd mb fun y => rs2 g x y
def mUn (g : PyData → Option PyData) (ma : M Opd) : M PyData := bnd ma fun x => rs1 g x
def mCallB (g : List PyData → Option PyData) (ma : M (List Opd)) : M PyData := bnd ma fun os => rsN g os

section
variable {X : Cx} {ks : List Kd} {ps : List (Nat × V)} {a b c e : Expr} {es : List Expr} {pos : Pos}

theorem rd_val {m : M PyData} (h : ED X ks ps e m) : RD X ks ps e (mVal m) := PE.imp h fun σ H Q q => by
  obtain ⟨G, F, env, o, env', I, hm, q⟩ := q
  obtain ⟨d, e1, h1, h2⟩ := bnd_some hm
  cases h2
  exact ⟨G, F, env, d, env', I, h1, fun v F' H' S J r => q v F' H' S J r⟩
theorem rd_slot (i : Nat) {x : Str} (hN : X.N[i]? = some x := by rfl) (hv : Vis X.env.scope x := by first | exact Or.inl rfl | exact Or.inr (Or.inl rfl) | exact Or.inr (Or.inr rfl)) (hd : (x == ("__debug__" : Str)) = false := by decide)
    (hcd : (x == ("__classdict__" : Str)) = false := by decide) : RD X ks ps (.Name x pos) (mSlot i) := PE.imp (pe_var hN hv hd hcd) fun σ H Q q => by
  obtain ⟨G, F, env, o, env', I, hm, q⟩ := q
  unfold mSlot at hm
  split at hm
  · rename_i d he
    cases hm
    have hk : i < ks.length := by rw [← I.lE]; exact (List.getElem?_eq_some_iff.mp he).1
    obtain ⟨v, Fi, g1, g2, o⟩ := I.sl i d _ he (List.getElem?_eq_getElem hk)
    exact ⟨v, g1, q v F H .refl I g1⟩
  · cases hm
theorem ed_var (i : Nat) {x : Str} (hN : X.N[i]? = some x := by rfl) (hk : ks[i]? = some .frz := by rfl) (hv : Vis X.env.scope x := by first | exact Or.inl rfl | exact Or.inr (Or.inl rfl) | exact Or.inr (Or.inr rfl)) (hd : (x == ("__debug__" : Str)) = false := by decide)
    (hcd : (x == ("__classdict__" : Str)) = false := by decide) : ED X ks ps (.Name x pos) (mVar i) := PE.imp (pe_var hN hv hd hcd) fun σ H Q q => by
  obtain ⟨G, F, env, d, env', I, hm, q⟩ := q
  unfold mVar at hm
  split at hm
  · rename_i d' he
    cases hm
    obtain ⟨v, g1, r⟩ := I.at_frz he hk
    exact ⟨v, g1, q v F H .refl I r⟩
  · cases hm
/-- a constant -/
theorem ed_c {d : PyData} {v : V} (h : PE X e (tC v)) (hr : ∀ H O, Rep X.K H O d v) : ED X ks ps e (ret d) := PE.imp h fun σ H Q q => by
  obtain ⟨G, F, env, d', env', I, hm, q⟩ := q
  cases hm
  exact q v F H .refl I (hr _ _)
theorem ed_int {i j} : ED X ks ps (.Constant (.int i) j pos) (ret (.int i)) := ed_c pe_int fun _ _ => by simp only [Rep]
theorem ed_bl {b j} : ED X ks ps (.Constant (.bool b) j pos) (ret (.bool b)) := ed_c pe_bl fun _ _ => by simp only [Rep]
theorem ed_non {j} : ED X ks ps (.Constant .none j pos) (ret .none) := ed_c pe_non fun _ _ => by simp only [Rep]
theorem ed_str {x j} : ED X ks ps (.Constant (.str x) j pos) (ret (.str x)) := ed_c pe_str fun _ _ => by simp only [Rep]

theorem ifown {K : PySem.W.Frag} {H : Hp} {O : Addr → Prop} {b : Bool} {d : PyData} {v : V} (hi : ¬ (b && !imm d) = true) (h : Rep K H (if b then fun _ => False else O) d v) : Rep K H O d v := by
  cases b with
  | false => exact h
  | true =>
    have : imm d = true := by simpa using hi
    exact Rep.imm this h
theorem less_if {O : Addr → Prop} {H : Hp} {a b : Bool} (h : a = true → b = true) : Kp (if a then fun _ => False else O) H (if b then fun _ => False else O) H := .less fun p => by
  cases a with
  | true => rw [h rfl]; exact fun z => z
  | false =>
    cases b with
    | true => exact fun z => z.elim
    | false => exact fun z => z

/-- behind two operands -/
theorem rs2_some {g : PyData → PyData → Option PyData} {o p : Opd} {e e2 : Ev} {r : PyData} (h : rs2 g o p e = some (r, e2)) : e2 = e ∧ ∃ d d', o.get e = some d ∧ p.get e = some d' ∧ g d d' = some r ∧ ¬ ((o.own || p.own) && !imm r) = true := by
  unfold rs2 at h
  split at h
  · cases h
  · rename_i d h1
    split at h
    · cases h
    · rename_i d' h2
      split at h
      · cases h
      · rename_i r' h3
        split at h
        · cases h
        · rename_i h4
          cases h
          exact ⟨rfl, d, d', h1, h2, h3, h4⟩
theorem rs1_some {g : PyData → Option PyData} {o : Opd} {e e2 : Ev} {r : PyData} (h : rs1 g o e = some (r, e2)) : e2 = e ∧ ∃ d, o.get e = some d ∧ g d = some r ∧ ¬ (o.own && !imm r) = true := by
  unfold rs1 at h
  split at h
  · cases h
  · rename_i d h1
    split at h
    · cases h
    · rename_i r' h3
      split at h
      · cases h
      · rename_i h4
        cases h
        exact ⟨rfl, d, h1, h3, h4⟩
theorem rsN_some {g : List PyData → Option PyData} {os : List Opd} {e e2 : Ev} {r : PyData} (h : rsN g os e = some (r, e2)) : e2 = e ∧ ∃ ds, getAll os e = some ds ∧ g ds = some r ∧ ¬ (os.any Opd.own && !imm r) = true := by
  unfold rsN at h
  split at h
  · cases h
  · rename_i d h1
    split at h
    · cases h
    · rename_i r' h3
      split at h
      · cases h
      · rename_i h4
        cases h
        exact ⟨rfl, d, h1, h3, h4⟩
theorem HoldsA.rep {K : PySem.W.Frag} {G : Addr → Prop} {F : List (List Addr)} {σ : L2.St} {H : Hp} {env : Ev} (I : EI K ks ps G F σ H env) : ∀ {os : List Opd} {vs : List V} {ds : List PyData}, HoldsA K ks G F σ H os vs → getAll os env = some ds →
    RepA K H (if os.any Opd.own then fun _ => False else OO G F) ds vs
  | [], _, _, h, e => by cases e; simp only [RepA]; exact h
  | o :: r, _, ds, h, e => by
    obtain ⟨x, t, rfl, h1, h2⟩ := h
    unfold getAll at e
    split at e
    · cases e
    · rename_i d g1
      split at e
      · cases e
      · rename_i ds' g2
        cases e
        have a1 := HoldsO.rep I h1 g1
        have a2 := HoldsA.rep I h2 g2
        exact .cons (Rep.kp (less_if (by intro z; simp [z])) a1) (RepA.kp (less_if (by intro z; simp [z])) a2)

theorem OO_new {K : PySem.W.Frag} {G : Addr → Prop} {F : List (List Addr)} {σ : L2.St} {H : Hp} {env : Ev} (I : EI K ks ps G F σ H env) {p : Addr} (h : H p = none) : ¬ OO G F p := fun z => by
  rcases z with z | z
  · exact I.gt p z h
  · exact (I.tr p z).1 h
theorem fresh_if {K : PySem.W.Frag} {G : Addr → Prop} {F : List (List Addr)} {σ : L2.St} {H : Hp} {env : Ev} (I : EI K ks ps G F σ H env) {b : Bool} : ∀ p, H p = none → ¬ (if b then fun _ => False else OO G F) p := fun p hp => by
  cases b with
  | true => exact fun z => z
  | false => exact OO_new I hp
/-- the pattern of a two-place operation -/
theorem red2 {ma mb : M Opd} {g : PyData → PyData → Option PyData} {σ : L2.St} {H : Hp} {Q : VK} {r : R2}
    (hr : ∀ x y H Q, (∃ O dx dy d, (∀ p, H p = none → ¬ O p) ∧ Rep X.K H O dx x ∧ Rep X.K H O dy y ∧ g dx dy = some d ∧ ∀ v H', Same H H' → Rep X.K H' O d v → Q v H') → r x y H Q)
    (q : tD X.K ks ps (mBin g ma mb) σ H Q) : tOp r (tR X.K ks ps ma) (tR X.K ks ps mb) σ H Q := by
  obtain ⟨G, F, env, d, env', I, hm, q⟩ := q
  obtain ⟨ox, e1, h1, h2⟩ := bnd_some hm
  obtain ⟨oy, e2, h3, h4⟩ := bnd_some h2
  obtain ⟨rfl, dx, dy, g1, g2, g3, gi⟩ := rs2_some h4
  refine ⟨G, F, env, ox, e1, I, h1, fun v F1 H1 S1 I1 r1 => ⟨G, F1, e1, oy, env', I1, h3, fun u F2 H2 S2 I2 r2 => hr v u H2 Q ?_⟩⟩
  have r1' := HoldsO.rep I2 (r1.stp S2) g1
  have r2' := HoldsO.rep I2 r2 g2
  refine ⟨if (ox.own || oy.own) then fun _ => False else OO G F2, dx, dy, d, fresh_if I2, Rep.kp (less_if (by intro z; simp [z])) r1', Rep.kp (less_if (by intro z; simp [z])) r2', g3, fun w H3 s3 r3 => ?_⟩
  exact q w F2 H3 ((S1.trans S2).trans (.same s3)) (I2.same s3) (ifown gi r3)
theorem ed_bin {op : Operator} {g : PyData → PyData → Option PyData} {ma mb : M Opd} (ho : Op2 X (binaryOp op) g) (ha : RD X ks ps a ma) (hb : RD X ks ps b mb) : ED X ks ps (.BinOp a op b pos) (mBin g ma mb) :=
  PE.imp (pe_op ho ha hb) fun σ H Q q => red2 (fun x y H Q z => z) q
theorem ed_cmp {op : CmpOp} {g : PyData → PyData → Option PyData} {ma mb : M Opd} (ho : Op2 X (compareOp op) g) (ha : RD X ks ps a ma) (hb : RD X ks ps b mb) (hm : behindInMarks op b = false) : ED X ks ps (.Compare a [op] [b] pos) (mBin g ma mb) :=
  PE.imp (pe_cmpR ho ha hb hm) fun σ H Q q => red2 (fun x y H Q z => z) q
theorem ed_un {op : UnaryOp} {g : PyData → Option PyData} {ma : M Opd} (ho : Op1 X (unaryOp op) g) (ha : RD X ks ps a ma) : ED X ks ps (.UnaryOp op a pos) (mUn g ma) := PE.imp (pe_un ho ha) fun σ H Q q => by
  obtain ⟨G, F, env, d, env', I, hm, q⟩ := q
  obtain ⟨ox, e1, h1, h2⟩ := bnd_some hm
  obtain ⟨rfl, dx, g1, g3, gi⟩ := rs1_some h2
  refine ⟨G, F, env, ox, env', I, h1, fun v F1 H1 S1 I1 r1 => ⟨_, dx, d, fresh_if I1, HoldsO.rep I1 r1 g1, g3, fun w H3 s3 r3 => ?_⟩⟩
  exact q w F1 H3 (S1.trans (.same s3)) (I1.same s3) (ifown gi r3)

/-! ### tests -/
def bOf : PyData → Option Bool
  | .bool b => some b
  | _ => none
def mTest (m : M PyData) : M Bool := bnd m fun d => lft (bOf d)
theorem td_cmp {op : CmpOp} {g : PyData → PyData → Option PyData} {ma mb : M Opd} (ho : Op2 X (compareOp op) g) (ha : RD X ks ps a ma) (hb : RD X ks ps b mb) (hm : behindInMarks op b = false) : TD X ks ps (.Compare a [op] [b] pos) (mTest (mBin g ma mb)) :=
  PT.imp (pt_cmpR ho ha hb hm) fun σ H Q q => by
    obtain ⟨G, F, env, d, env', I, hm, q⟩ := q
    obtain ⟨x, e1, h1, h2⟩ := bnd_some hm
    obtain ⟨h2, rfl⟩ := lft_some h2
    refine red2 (fun x y H Q z => z) ⟨G, F, env, x, env', I, h1, fun v F' H' S J r => ?_⟩
    cases x with
    | bool k =>
      cases h2
      simp only [Rep] at r
      exact ⟨_, r, q F' H' S J⟩
    | _ => cases h2
theorem td_val {m : M PyData} (h : ED X ks ps e m) (he : ∀ whole, isTrue e X.env whole = (do let v ← whole; standAt e.pos; holding [v] (truthy v)) := by intro _; rfl) : TD X ks ps e (mTest m) :=
  PT.imp (pt_val h he) fun σ H Q q => by
    obtain ⟨G, F, env, d, env', I, hm, q⟩ := q
    obtain ⟨x, e1, h1, h2⟩ := bnd_some hm
    obtain ⟨h2, rfl⟩ := lft_some h2
    refine ⟨G, F, env, x, env', I, h1, fun v F' H' S J r => ?_⟩
    cases x with
    | bool k =>
      cases h2
      simp only [Rep] at r
      exact ⟨_, r, q F' H' S J⟩
    | _ => cases h2
def mNot (m : M Bool) : M Bool := bnd m fun b => ret (!b)
def mAnd (m n : M Bool) : M Bool := bnd m fun b => if b then n else ret false
def mOr (m n : M Bool) : M Bool := bnd m fun b => if b then ret true else n
theorem td_not {m : M Bool} (h : TD X ks ps a m) : TD X ks ps (.UnaryOp .Not a pos) (mNot m) := PT.imp (pt_not h) fun σ H Q q => by
  obtain ⟨G, F, env, d, env', I, hm, q⟩ := q
  obtain ⟨x, e1, h1, h2⟩ := bnd_some hm
  cases h2
  exact ⟨G, F, env, x, env', I, h1, fun F' H' S J => q F' H' S J⟩
theorem wd_pt {m : M Bool} (h : WD X ks ps e m) : TD X ks ps e m := PW.pt h
theorem wd_and1 {m : M Bool} (h : TD X ks ps a m) : WD X ks ps (.BoolOp .And [a] pos) m := pw_and1 h
theorem wd_or1 {m : M Bool} (h : TD X ks ps a m) : WD X ks ps (.BoolOp .Or [a] pos) m := pw_or1 h
theorem wd_and {m n : M Bool} {r : List Expr} (h : TD X ks ps a m) (h2 : WD X ks ps (.BoolOp .And (b :: r) pos) n) : WD X ks ps (.BoolOp .And (a :: b :: r) pos) (mAnd m n) := PW.imp (pw_and h h2) fun σ H Q q => by
  obtain ⟨G, F, env, d, env', I, hm, q⟩ := q
  obtain ⟨x, e1, h1, h2⟩ := bnd_some hm
  refine ⟨G, F, env, x, e1, I, h1, fun F' H' S J => ?_⟩
  cases x with
  | true => exact iteT ⟨G, F', e1, d, env', J, h2, fun F2 H2 S2 J2 => q F2 H2 (S.trans S2) J2⟩
  | false => cases h2; exact iteF (q F' H' S J)
theorem wd_or {m n : M Bool} {r : List Expr} (h : TD X ks ps a m) (h2 : WD X ks ps (.BoolOp .Or (b :: r) pos) n) : WD X ks ps (.BoolOp .Or (a :: b :: r) pos) (mOr m n) := PW.imp (pw_or h h2) fun σ H Q q => by
  obtain ⟨G, F, env, d, env', I, hm, q⟩ := q
  obtain ⟨x, e1, h1, h2⟩ := bnd_some hm
  refine ⟨G, F, env, x, e1, I, h1, fun F' H' S J => ?_⟩
  cases x with
  | false => exact iteF ⟨G, F', e1, d, env', J, h2, fun F2 H2 S2 J2 => q F2 H2 (S.trans S2) J2⟩
  | true => cases h2; exact iteT (q F' H' S J)
/-- the same as values, of bools -/
def mAndV (m n : M PyData) : M PyData := bnd (mTest m) fun b => if b then n else ret (.bool false)
def mOrV (m n : M PyData) : M PyData := bnd (mTest m) fun b => if b then ret (.bool true) else n
def mNotV (m : M PyData) : M PyData := bnd (mTest m) fun b => ret (.bool (!b))
theorem ed_one {op} {m : M PyData} (h : ED X ks ps a m) : ED X ks ps (.BoolOp op [a] pos) m := pe_one h
theorem mTest_bool {m : M PyData} {e e1 : Ev} {b : Bool} (h : mTest m e = some (b, e1)) : m e = some (.bool b, e1) := by
  obtain ⟨x, e2, h1, h2⟩ := bnd_some h
  obtain ⟨h2, rfl⟩ := lft_some h2
  cases x with
  | bool k => cases h2; exact h1
  | _ => cases h2
theorem ed_and {m n : M PyData} {r : List Expr} (h : ED X ks ps a m) (h2 : ED X ks ps (.BoolOp .And (b :: r) pos) n) : ED X ks ps (.BoolOp .And (a :: b :: r) pos) (mAndV m n) := PE.imp (pe_and h h2) fun σ H Q q => by
  obtain ⟨G, F, env, d, env', I, hm, q⟩ := q
  obtain ⟨x, e1, h1, h2⟩ := bnd_some hm
  refine ⟨G, F, env, _, e1, I, mTest_bool h1, fun v F' H' S J r => ?_⟩
  simp only [Rep] at r
  refine ⟨x, r, ?_⟩
  cases x with
  | true => exact iteT ⟨G, F', e1, d, env', J, h2, fun v F2 H2 S2 J2 => q v F2 H2 (S.trans S2) J2⟩
  | false => cases h2; exact iteF (q _ F' H' S J (by simp only [Rep]))
theorem ed_or {m n : M PyData} {r : List Expr} (h : ED X ks ps a m) (h2 : ED X ks ps (.BoolOp .Or (b :: r) pos) n) : ED X ks ps (.BoolOp .Or (a :: b :: r) pos) (mOrV m n) := PE.imp (pe_or h h2) fun σ H Q q => by
  obtain ⟨G, F, env, d, env', I, hm, q⟩ := q
  obtain ⟨x, e1, h1, h2⟩ := bnd_some hm
  refine ⟨G, F, env, _, e1, I, mTest_bool h1, fun v F' H' S J r => ?_⟩
  simp only [Rep] at r
  refine ⟨x, r, ?_⟩
  cases x with
  | false => exact iteF ⟨G, F', e1, d, env', J, h2, fun v F2 H2 S2 J2 => q v F2 H2 (S.trans S2) J2⟩
  | true => cases h2; exact iteT (q _ F' H' S J (by simp only [Rep]))
theorem ed_not {m : M PyData} (h : ED X ks ps a m) : ED X ks ps (.UnaryOp .Not a pos) (mNotV m) := PE.imp (pe_not h) fun σ H Q q => by
  obtain ⟨G, F, env, d, env', I, hm, q⟩ := q
  obtain ⟨x, e1, h1, h2⟩ := bnd_some hm
  cases h2
  refine ⟨G, F, env, _, _, I, mTest_bool h1, fun v F' H' S J r => ?_⟩
  simp only [Rep] at r
  exact ⟨x, r, q _ F' H' S J (by simp only [Rep])⟩
def mIf {α : Type} (c : M Bool) (m n : M α) : M α := bnd c fun b => if b then m else n
theorem ed_if {t : M Bool} {m n : M PyData} (hc : TD X ks ps c t) (ha : ED X ks ps a m) (hb : ED X ks ps b n) : ED X ks ps (.IfExp c a b pos) (mIf t m n) := PE.imp (pe_ifExp hc ha hb) fun σ H Q q => by
  obtain ⟨G, F, env, d, env', I, hm, q⟩ := q
  obtain ⟨x, e1, h1, h2⟩ := bnd_some hm
  refine ⟨G, F, env, x, e1, I, h1, fun F' H' S J => ?_⟩
  cases x with
  | true => exact iteT ⟨G, F', e1, d, env', J, h2, fun v F2 H2 S2 J2 => q v F2 H2 (S.trans S2) J2⟩
  | false => exact iteF ⟨G, F', e1, d, env', J, h2, fun v F2 H2 S2 J2 => q v F2 H2 (S.trans S2) J2⟩

/-! ### arguments, built-ins -/
theorem ad_nil : AoD X ks ps [] mA0 := PA.imp pa_nil fun σ H Q q => by
  obtain ⟨G, F, env, d, env', I, hm, q⟩ := q
  cases hm
  exact q [] F H .refl I rfl
theorem ad_cons {m : M Opd} {r : M (List Opd)} (ha : RD X ks ps e m) (hr : AoD X ks ps es r) (hs : starEach (e :: es) X.env = (false, eval e X.env) :: starEach es X.env := by rfl) : AoD X ks ps (e :: es) (mA m r) := PA.imp (pa_cons ha hr hs) fun σ H Q q => by
  obtain ⟨G, F, env, d, env', I, hm, q⟩ := q
  obtain ⟨o, e1, h1, h2⟩ := bnd_some hm
  obtain ⟨os, e2, h3, h4⟩ := bnd_some h2
  cases h4
  refine ⟨G, F, env, o, e1, I, h1, fun v F1 H1 S1 I1 r1 => ⟨G, F1, e1, os, env', I1, h3, fun vs F2 H2 S2 I2 r2 => ?_⟩⟩
  exact q (v :: vs) F2 H2 (S1.trans S2) I2 ⟨v, vs, rfl, r1.stp S2, r2⟩
theorem redN {ma : M (List Opd)} {g : List PyData → Option PyData} {σ : L2.St} {H : Hp} {Q : VK} {r : List V → Hp → VK → Prop}
    (hr : ∀ xs H Q, (∃ O ds d, (∀ p, H p = none → ¬ O p) ∧ RepA X.K H O ds xs ∧ g ds = some d ∧ ∀ v H', Same H H' → Rep X.K H' O d v → Q v H') → r xs H Q)
    (q : tD X.K ks ps (mCallB g ma) σ H Q) : tCB r (tAo X.K ks ps ma) σ H Q := by
  obtain ⟨G, F, env, d, env', I, hm, q⟩ := q
  obtain ⟨os, e1, h1, h2⟩ := bnd_some hm
  obtain ⟨rfl, ds, g1, g3, gi⟩ := rsN_some h2
  refine ⟨G, F, env, os, env', I, h1, fun vs F1 H1 S1 I1 r1 => hr vs H1 Q ⟨_, ds, d, fresh_if I1, HoldsA.rep I1 r1 g1, g3, fun w H3 s3 r3 => ?_⟩⟩
  exact q w F1 H3 (S1.trans (.same s3)) (I1.same s3) (ifown gi r3)
variable {x : Str} {p : Pos} {id T : String} {g : List PyData → Option PyData} {ma : M (List Opd)}
theorem ed_callB (hc : FnV X (.builtin id) g) (hg : Gl X x) (hm : X.mg x = none) (hv : bootBuiltins x = some (.builtin id)) (ha : AoD X ks ps (e :: es) ma) (hn : x ≠ "__name__" := by decide) (hdb : (x == ("__debug__" : Str)) = false := by decide)
    (he : starEach (e :: es) X.env = (false, eval e X.env) :: starEach es X.env := by rfl) (hpl : (backTo pos (starEach es X.env)).any (·.1) = false := by rfl) : ED X ks ps (.Call (.Name x p) (e :: es) [] pos) (mCallB g ma) :=
  PE.imp (pe_callB hc hg hm hv ha hn hdb he hpl) fun σ H Q q => redN (fun x H Q z => z) q
theorem ed_callTy (hc : FnV X (.type T) g) (hg : Gl X x) (hm : X.mg x = none) (hv : bootBuiltins x = some (.type T)) (ha : AoD X ks ps (e :: es) ma) (hn : x ≠ "__name__" := by decide) (hdb : (x == ("__debug__" : Str)) = false := by decide)
    (he : starEach (e :: es) X.env = (false, eval e X.env) :: starEach es X.env := by rfl) (hpl : (backTo pos (starEach es X.env)).any (·.1) = false := by rfl) : ED X ks ps (.Call (.Name x p) (e :: es) [] pos) (mCallB g ma) :=
  PE.imp (pe_callTy hc hg hm hv ha hn hdb he hpl) fun σ H Q q => redN (fun x H Q z => z) q

/-! ### displays -/
def allVal : List Opd → Option (List PyData)
  | [] => some []
  | .val d :: r => match allVal r with
    | none => none
    | some ds => some (d :: ds)
  | .slot _ :: _ => none
theorem HoldsA.vals {K : PySem.W.Frag} {G : Addr → Prop} {F : List (List Addr)} {σ : L2.St} {H : Hp} : ∀ {os : List Opd} {vs : List V} {ds : List PyData}, HoldsA K ks G F σ H os vs → allVal os = some ds → RepA K H (OO G F) ds vs
  | [], _, _, h, e => by cases e; simp only [RepA]; exact h
  | .val d :: r, _, ds, h, e => by
    obtain ⟨x, t, rfl, h1, h2⟩ := h
    unfold allVal at e
    split at e
    · cases e
    · rename_i ds' g2
      cases e
      exact .cons h1 (HoldsA.vals h2 g2)
  | .slot i :: r, _, ds, h, e => by cases e
def mTup (ma : M (List Opd)) : M PyData := bnd ma fun os => lft (match allVal os with
  | none => none
  | some ds => if ds.length ≤ 1000 then some (.tuple ds) else none)
def mLst (ma : M (List Opd)) : M PyData := bnd ma fun os => lft (match allVal os with
  | none => none
  | some ds => if ds.length ≤ 1000 then some (.list ds) else none)
theorem same_upd {H : Hp} {p : Addr} {o : HO} (h : H p = none) : Same H (upd H p o) := fun b x e => by rw [upd_ne (ne_of_none e h)]; exact e
theorem ed_tup {x1} (h : AoD X ks ps es ma) : ED X ks ps (.Tuple es x1 pos) (mTup ma) := PE.imp (pe_tup h) fun σ H Q q => by
  obtain ⟨G, F, env, d, env', I, hm, q⟩ := q
  obtain ⟨os, e1, h1, h2⟩ := bnd_some hm
  obtain ⟨h2, rfl⟩ := lft_some h2
  split at h2
  · cases h2
  · rename_i ds g
    split at h2
    · cases h2
      rename_i hl
      refine ⟨G, F, env, os, env', I, h1, fun vs F1 H1 S1 I1 r1 => ?_⟩
      have ra := HoldsA.vals r1 g
      have hlen := ra.length
      refine ⟨Nat.le_of_lt (small1000 (by omega)), fun p hp => ?_⟩
      have s := same_upd (o := .tup vs) hp
      refine q _ F1 _ (S1.trans (.same s)) (I1.same s) ?_
      simp only [Rep]
      exact ⟨p, vs, rfl, .of upd_same, RepA.kp (Same.kp s) ra⟩
    · cases h2
theorem ed_lst (h : AoD X ks ps es ma) : ED X ks ps (.List es pos) (mLst ma) := PE.imp (pe_lst h) fun σ H Q q => by
  obtain ⟨G, F, env, d, env', I, hm, q⟩ := q
  obtain ⟨os, e1, h1, h2⟩ := bnd_some hm
  obtain ⟨h2, rfl⟩ := lft_some h2
  split at h2
  · cases h2
  · rename_i ds g
    split at h2
    · cases h2
      rename_i hl
      refine ⟨G, F, env, os, env', I, h1, fun vs F1 H1 S1 I1 r1 => ?_⟩
      have ra := HoldsA.vals r1 g
      have hlen := ra.length
      refine ⟨Nat.le_of_lt (small1000 (by omega)), fun p hp => ?_⟩
      have s := same_upd (o := .lst vs) hp
      refine q _ F1 _ (S1.trans (.same s)) (I1.same s) ?_
      simp only [Rep]
      exact ⟨p, vs, rfl, LstAt.rd (.inl upd_same) (OO_new I1 hp), RepA.kp (Same.kp s) ra⟩
    · cases h2
end
end DL

/-! DLC: operators and built-ins over data. -/
namespace DL
open PySem PySem.Spec PyProof.Rows L2
section
variable {X : Cx}

/-! ### numbers -/
def smallI (i : Int) : Bool := decide (-(2 ^ 64) < i) && decide (i < 2 ^ 64)
def mulOk (i j : Int) : Bool := smallI i || smallI j || decide (i.natAbs.log2 + j.natAbs.log2 < 1000000)
theorem mulOk_ok {i j : Int} (h : mulOk i j = true) : IntMulOk i j := by
  unfold mulOk smallI at h
  simp only [Bool.or_eq_true, Bool.and_eq_true, decide_eq_true_eq] at h
  rcases h with (h | h) | h
  · exact CMul.ok (.inl h)
  · exact CMul.ok (.inr h)
  · exact CMulW.ok h
def addD : PyData → PyData → Option PyData
  | .int i, .int j => some (.int (i + j))
  | .str a, .str b => if a.length + b.length ≤ sizeLine then some (.str (a ++ b)) else none
  | .tuple xs, .tuple ys => if xs.length + ys.length ≤ sizeLine then some (.tuple (xs ++ ys)) else none
  | .list xs, .list ys => if xs.length + ys.length ≤ sizeLine then some (.list (xs ++ ys)) else none
  | _, _ => none
def subD : PyData → PyData → Option PyData
  | .int i, .int j => some (.int (i - j))
  | _, _ => none
def mulD : PyData → PyData → Option PyData
  | .int i, .int j => if mulOk i j then some (.int (i * j)) else none
  | _, _ => none
def fdivD : PyData → PyData → Option PyData
  | .int i, .int j => if j ≠ 0 ∧ j.natAbs < 1073741824 then some (.int (i.fdiv j)) else none
  | _, _ => none
def modD : PyData → PyData → Option PyData
  | .int i, .int j => if j ≠ 0 then some (.int (i.fmod j)) else none
  | _, _ => none
def negD : PyData → Option PyData
  | .int i => some (.int (-i))
  | _ => none

theorem rep_int {K : PySem.W.Frag} {H : Hp} {O : Addr → Prop} {i : Int} : Rep K H O (.int i) (.int i) := by simp only [Rep]
theorem rep_bl {K : PySem.W.Frag} {H : Hp} {O : Addr → Prop} {i : Bool} : Rep K H O (.bool i) (.bl i) := by simp only [Rep]
theorem rep_str {K : PySem.W.Frag} {H : Hp} {O : Addr → Prop} {i : Str} : Rep K H O (.str i) (.str i) := by simp only [Rep]
theorem rep_non {K : PySem.W.Frag} {H : Hp} {O : Addr → Prop} : Rep K H O .none .non := by simp only [Rep]

theorem o_ints {f : Value → Value → Sem Value} {C : Int → Int → Prop} {g : Int → Int → V} (h : OpR X f (rI C g)) {G : PyData → PyData → Option PyData}
    (hG : ∀ d e r, G d e = some r → ∃ i j, d = .int i ∧ e = .int j ∧ C i j ∧ ∀ K H O, Rep K H O r (g i j)) : Op2 X f G := by
  intro pins s σ H x y v u Q I rx ry q
  obtain ⟨O, dx, dy, d, fr, r1, r2, e, q⟩ := q
  obtain ⟨i, j, rfl, rfl, c, hr⟩ := hG _ _ _ e
  simp only [Rep] at r1 r2
  subst r1; subst r2
  exact h pins s σ H _ _ v u Q I rx ry ⟨i, j, rfl, rfl, c, q _ H (.refl H) (hr _ _ _)⟩
theorem rI_of {f : Value → Value → Sem Value} {g : Int → Int → V} (h : OpR X f (rI0 g)) : OpR X f (rI (fun _ _ => True) g) := by
  intro pins s σ H x y v u Q I rx ry q
  obtain ⟨i, j, e1, e2, _, q⟩ := q
  exact h pins s σ H x y v u Q I rx ry ⟨i, j, e1, e2, q⟩
theorem op_mulA : OpR X (binaryOp .Mult) (rI (fun i j => mulOk i j = true) fun i j => .int (i * j)) := opI fun _ _ _ _ _ _ _ hc q => mul_int q (mulOk_ok hc)
theorem iop_mulA : OpR X (inplaceOp .Mult) (rI (fun i j => mulOk i j = true) fun i j => .int (i * j)) := opI fun _ _ _ _ _ _ _ hc q => imul_int q (mulOk_ok hc)

theorem subD_some {d e r : PyData} (h : subD d e = some r) : ∃ i j, d = .int i ∧ e = .int j ∧ True ∧ ∀ K H O, Rep K H O r (.int (i - j)) := by
  unfold subD at h
  split at h
  · cases h; exact ⟨_, _, rfl, rfl, trivial, fun _ _ _ => rep_int⟩
  · cases h
theorem mulD_some {d e r : PyData} (h : mulD d e = some r) : ∃ i j, d = .int i ∧ e = .int j ∧ mulOk i j = true ∧ ∀ K H O, Rep K H O r (.int (i * j)) := by
  unfold mulD at h
  split at h
  · split at h
    · cases h; exact ⟨_, _, rfl, rfl, by assumption, fun _ _ _ => rep_int⟩
    · cases h
  · cases h
theorem fdivD_some {d e r : PyData} (h : fdivD d e = some r) : ∃ i j, d = .int i ∧ e = .int j ∧ CDivN i j ∧ ∀ K H O, Rep K H O r (.int (i.fdiv j)) := by
  unfold fdivD at h
  split at h
  · split at h
    · cases h; exact ⟨_, _, rfl, rfl, by assumption, fun _ _ _ => rep_int⟩
    · cases h
  · cases h
theorem modD_some {d e r : PyData} (h : modD d e = some r) : ∃ i j, d = .int i ∧ e = .int j ∧ j ≠ 0 ∧ ∀ K H O, Rep K H O r (.int (i.fmod j)) := by
  unfold modD at h
  split at h
  · split at h
    · cases h; exact ⟨_, _, rfl, rfl, by assumption, fun _ _ _ => rep_int⟩
    · cases h
  · cases h
theorem o_sub : Op2 X (binaryOp .Sub) subD := o_ints (rI_of op_sub) fun _ _ _ => subD_some
theorem o_mul : Op2 X (binaryOp .Mult) mulD := o_ints op_mulA fun _ _ _ => mulD_some
theorem o_fdiv : Op2 X (binaryOp .FloorDiv) fdivD := o_ints op_fdivN fun _ _ _ => fdivD_some
theorem o_mod : Op2 X (binaryOp .Mod) modD := o_ints op_modN fun _ _ _ => modD_some
theorem i_sub : Op2 X (inplaceOp .Sub) subD := o_ints (rI_of iop_sub) fun _ _ _ => subD_some
theorem i_mul : Op2 X (inplaceOp .Mult) mulD := o_ints iop_mulA fun _ _ _ => mulD_some
def iaddD : PyData → PyData → Option PyData
  | .int i, .int j => some (.int (i + j))
  | _, _ => none
theorem i_add : Op2 X (inplaceOp .Add) iaddD := o_ints (rI_of iop_add) fun d e r h => by
  unfold iaddD at h
  split at h
  · cases h; exact ⟨_, _, rfl, rfl, trivial, fun _ _ _ => rep_int⟩
  · cases h
theorem o_neg : Op1 X (unaryOp .USub) negD := by
  intro pins s σ H x v Q I rx q
  obtain ⟨O, dx, d, fr, r1, e, q⟩ := q
  unfold negD at e
  split at e
  · cases e
    simp only [Rep] at r1
    subst r1
    exact un_neg pins s σ H _ v Q I rx ⟨_, rfl, q _ H (.refl H) rep_int⟩
  · cases e

theorem cat_listS {pins : List (Addr × Obj)} {s : Shared} {σ : L2.St} {H : Hp} {l b : Addr} {xs zs : List V} {Q : VK} (I : Inv X pins σ H s) (h1 : SqL X.K H l xs) (h2 : SqL X.K H b zs) (hz : xs.length + zs.length ≤ sizeLine)
    (q : ∀ p, H p = none → Q (.ref p) (upd H p (.lst (xs ++ zs)))) : wpAny (model X.prog X.w) X.A (binaryOp .Add (.ref l) (.ref b)) (EP X pins σ Q) X.xe s := by
  obtain ⟨its, r, ⟨⟨cls, dd, data, sl⟩, n, ho, hc, hdn, hdt⟩, hl⟩ := I.list h1
  obtain ⟨its2, r2, ⟨⟨cls2, dd2, data2, sl2⟩, n2, ho2, hc2, hdn2, hdt2⟩, hl2⟩ := I.list h2
  simp only at hc hdn hdt hc2 hdn2 hdt2
  subst hc hdn hdt hc2 hdn2 hdt2
  have l1 := r.length
  have l2 := r2.length
  have ea : its.toArray ++ its2.toArray = (its ++ its2).toArray := by simp
  refine concat_meets ⟨_, ho, rfl⟩ ⟨_, ho2, rfl⟩ noFill_list_add seq_list_add PySem.F.slot_list_add PySem.F.entry_list_add (PySem.F.args_list_add_2 _ _) (list_addW l b its.toArray its2.toArray n n2 _ _ sl sl2 (by rw [List.size_toArray, List.size_toArray]; omega)) ⟨ho, ho2, ?_⟩
  rw [ea]
  exact ⟨.ref _, _, I.lnew (t' := s.toks) (r.append r2) (by rw [List.length_append]; omega), rfl, q _ I.fresh⟩

theorem o_add : Op2 X (binaryOp .Add) addD := by
  intro pins s σ H x y v u Q I rx ry q
  obtain ⟨O, dx, dy, d, fr, r1, r2, e, q⟩ := q
  unfold addD at e
  split at e
  · cases e
    simp only [Rep] at r1 r2
    subst r1; subst r2
    exact op_add pins s σ H _ _ v u Q I rx ry ⟨_, _, rfl, rfl, q _ H (.refl H) rep_int⟩
  · split at e
    · cases e
      rename_i hz
      simp only [Rep] at r1 r2
      subst r1; subst r2
      exact op_add_str pins s σ H _ _ v u Q I rx ry ⟨_, _, rfl, rfl, hz, q _ H (.refl H) rep_str⟩
    · cases e
  · split at e
    · cases e
      rename_i xs ys hz
      simp only [Rep] at r1 r2
      obtain ⟨a, vs, rfl, t1, a1⟩ := r1
      obtain ⟨b, ws, rfl, t2, a2⟩ := r2
      have l1 := a1.length
      have l2 := a2.length
      refine op_catA pins s σ H _ _ v u Q I rx ry ⟨a, b, vs, ws, rfl, rfl, t1, t2, by omega, fun z => ?_, fun z z2 => ?_, fun z z2 p hp => ?_⟩
      · subst z
        have : xs = [] := List.eq_nil_of_length_eq_zero l1
        subst this
        refine q _ H (.refl H) ?_
        simp only [Rep]
        exact ⟨b, ws, rfl, t2, a2⟩
      · subst z2
        have : ys = [] := List.eq_nil_of_length_eq_zero l2
        subst this
        refine q _ H (.refl H) ?_
        rw [List.append_nil]
        simp only [Rep]
        exact ⟨a, vs, rfl, t1, a1⟩
      · have sm := same_upd (o := .tup (vs ++ ws)) hp
        refine q _ _ sm ?_
        simp only [Rep]
        exact ⟨p, _, rfl, .of upd_same, (RepA.kp (Same.kp sm) a1).append (RepA.kp (Same.kp sm) a2)⟩
    · cases e
  · split at e
    · cases e
      rename_i xs ys hz
      simp only [Rep] at r1 r2
      obtain ⟨a, vs, rfl, t1, a1⟩ := r1
      obtain ⟨b, ws, rfl, t2, a2⟩ := r2
      have l1 := a1.length
      have l2 := a2.length
      cases rx
      cases ry
      refine cat_listS I t1.sq t2.sq (by omega) fun p hp => ?_
      have sm := same_upd (o := .lst (vs ++ ws)) hp
      refine q _ _ sm ?_
      simp only [Rep]
      exact ⟨p, _, rfl, LstAt.rd (.inl upd_same) (fr p hp), (RepA.kp (Same.kp sm) a1).append (RepA.kp (Same.kp sm) a2)⟩
    · cases e
  · cases e

/-! ### comparisons -/
mutual
theorem Rep.dp {K : PySem.W.Frag} {H : Hp} {O : Addr → Prop} : ∀ {d : PyData} {v : V}, d.canLay0 = true → Rep K H O d v → Dp K H v d
  | .none, v, _, h => by simp only [Rep] at h; subst h; exact .non
  | .bool b, v, _, h => by simp only [Rep] at h; subst h; exact .bl b
  | .int i, v, _, h => by simp only [Rep] at h; subst h; exact .int i
  | .str x, v, _, h => by simp only [Rep] at h; subst h; exact .str x
  | .list ds, v, c, h => by
    simp only [Rep] at h
    simp only [PyData.canLay0] at c
    obtain ⟨a, xs, rfl, h1, h2⟩ := h
    exact .lst h1.sq (RepA.dp c h2)
  | .tuple ds, v, c, h => by
    simp only [Rep] at h
    simp only [PyData.canLay0] at c
    obtain ⟨a, xs, rfl, h1, h2⟩ := h
    exact .tup h1 (RepA.dp c h2)
  | .dict kvs, v, c, h => by simp only [PyData.canLay0] at c; cases c
theorem RepA.dp {K : PySem.W.Frag} {H : Hp} {O : Addr → Prop} : ∀ {ds : List PyData} {xs : List V}, PyData.canLayAll0 ds = true → RepA K H O ds xs → DpAll K H xs ds
  | [], xs, _, h => by simp only [RepA] at h; subst h; exact .nil
  | d :: ds, xs, c, h => by
    simp only [RepA] at h
    simp only [PyData.canLayAll0, Bool.and_eq_true] at c
    obtain ⟨x, r, rfl, h1, h2⟩ := h
    exact .cons (Rep.dp c.1 h1) (RepA.dp c.2 h2)
end
def ltD : PyData → PyData → Option PyData
  | .int i, .int j => some (.bool (decide (i < j)))
  | _, _ => none
def leD : PyData → PyData → Option PyData
  | .int i, .int j => some (.bool (decide (i ≤ j)))
  | _, _ => none
def gtD : PyData → PyData → Option PyData
  | .int i, .int j => some (.bool (decide (j < i)))
  | _, _ => none
def geD : PyData → PyData → Option PyData
  | .int i, .int j => some (.bool (decide (j ≤ i)))
  | _, _ => none
theorem o_lt : Op2 X (compareOp .Lt) ltD := o_ints (rI_of op_lt) fun d e r h => by
  unfold ltD at h
  split at h
  · cases h; exact ⟨_, _, rfl, rfl, trivial, fun _ _ _ => rep_bl⟩
  · cases h
theorem o_le : Op2 X (compareOp .LtE) leD := o_ints (rI_of op_le) fun d e r h => by
  unfold leD at h
  split at h
  · cases h; exact ⟨_, _, rfl, rfl, trivial, fun _ _ _ => rep_bl⟩
  · cases h
theorem o_gt : Op2 X (compareOp .Gt) gtD := o_ints (rI_of op_gt) fun d e r h => by
  unfold gtD at h
  split at h
  · cases h; exact ⟨_, _, rfl, rfl, trivial, fun _ _ _ => rep_bl⟩
  · cases h
theorem o_ge : Op2 X (compareOp .GtE) geD := o_ints (rI_of op_ge) fun d e r h => by
  unfold geD at h
  split at h
  · cases h; exact ⟨_, _, rfl, rfl, trivial, fun _ _ _ => rep_bl⟩
  · cases h

def eqB (d e : PyData) : Option Bool := match d, e with
  | .str x, .str y => some (decide (x = y))
  | d, e => if SeqAt.shaped d && SeqAt.shaped e then some (PyData.eqv d e) else none
def eqD (d e : PyData) : Option PyData := (eqB d e).map .bool
def neD (d e : PyData) : Option PyData := (eqB d e).map fun b => .bool (!b)
theorem eqB_some {d e : PyData} {b : Bool} (h : eqB d e = some b) : (∃ x y, d = .str x ∧ e = .str y ∧ b = decide (x = y)) ∨ (SeqAt.shaped d = true ∧ SeqAt.shaped e = true ∧ b = PyData.eqv d e) := by
  unfold eqB at h
  split at h
  · cases h; exact .inl ⟨_, _, rfl, rfl, rfl⟩
  · split at h
    · rename_i hs
      cases h
      rw [Bool.and_eq_true] at hs
      exact .inr ⟨hs.1, hs.2, rfl⟩
    · cases h
theorem o_eq (hu : X.A.units + 64 < cLine) : Op2 X (compareOp .Eq) eqD := by
  intro pins s σ H x y v u Q I rx ry q
  obtain ⟨O, dx, dy, d, fr, r1, r2, e, q⟩ := q
  unfold eqD at e
  cases hb : eqB dx dy with
  | none => rw [hb] at e; cases e
  | some b =>
    rw [hb] at e; cases e
    rcases eqB_some hb with ⟨a, c, rfl, rfl, rfl⟩ | ⟨h1, h2, rfl⟩
    · simp only [Rep] at r1 r2
      subst r1; subst r2
      refine op_eq pins s σ H _ _ v u Q I rx ry ⟨rfl, q _ H (.refl H) ?_⟩
      simp only [Rep, V.str.injEq]
    · exact op_eqD hu pins s σ H _ _ v u Q I rx ry ⟨dx, dy, r1.dp (SeqAt.canLay_of_shaped h1), r2.dp (SeqAt.canLay_of_shaped h2), h1, h2, q _ H (.refl H) rep_bl⟩
theorem o_ne (hu : X.A.units + 64 < cLine) : Op2 X (compareOp .NotEq) neD := by
  intro pins s σ H x y v u Q I rx ry q
  obtain ⟨O, dx, dy, d, fr, r1, r2, e, q⟩ := q
  unfold neD at e
  cases hb : eqB dx dy with
  | none => rw [hb] at e; cases e
  | some b =>
    rw [hb] at e; cases e
    rcases eqB_some hb with ⟨a, c, rfl, rfl, rfl⟩ | ⟨h1, h2, rfl⟩
    · simp only [Rep] at r1 r2
      subst r1; subst r2
      refine op_ne pins s σ H _ _ v u Q I rx ry ⟨rfl, q _ H (.refl H) ?_⟩
      simp only [Rep, V.str.injEq]
    · exact op_neD hu pins s σ H _ _ v u Q I rx ry ⟨dx, dy, r1.dp (SeqAt.canLay_of_shaped h1), r2.dp (SeqAt.canLay_of_shaped h2), h1, h2, q _ H (.refl H) rep_bl⟩
def itsOf : PyData → Option (List PyData)
  | .list ds => some ds
  | .tuple ds => some ds
  | _ => none
def inB (d e : PyData) : Option Bool := match itsOf e with
  | some ds => if SeqAt.shaped d && SeqAt.shaped e then some (ds.any fun z => PyData.eqv z d) else none
  | none => none
def inD (d e : PyData) : Option PyData := (inB d e).map .bool
def notInD (d e : PyData) : Option PyData := (inB d e).map fun b => .bool (!b)
theorem inB_some {d e : PyData} {b : Bool} (h : inB d e = some b) : ∃ ds, (e = .list ds ∨ e = .tuple ds) ∧ SeqAt.shaped d = true ∧ SeqAt.shaped e = true ∧ b = ds.any fun z => PyData.eqv z d := by
  unfold inB at h
  split at h
  · rename_i ds he
    split at h
    · rename_i hs
      cases h
      rw [Bool.and_eq_true] at hs
      refine ⟨ds, ?_, hs.1, hs.2, rfl⟩
      unfold itsOf at he
      split at he
      · cases he; exact .inl rfl
      · cases he; exact .inr rfl
      · cases he
    · cases h
  · cases h
theorem o_in (hu : X.A.units + 65 < cLine) : Op2 X (compareOp .In) inD := by
  intro pins s σ H x y v u Q I rx ry q
  obtain ⟨O, dx, dy, d, fr, r1, r2, e, q⟩ := q
  unfold inD at e
  cases hb : inB dx dy with
  | none => rw [hb] at e; cases e
  | some b =>
    rw [hb] at e; cases e
    obtain ⟨ds, he, h1, h2, rfl⟩ := inB_some hb
    obtain ⟨as, q1⟩ := Dp.reads I dx x v (r1.dp (SeqAt.canLay_of_shaped h1)) rx
    obtain ⟨bs, q2⟩ := Dp.reads I dy y u (r2.dp (SeqAt.canLay_of_shaped h2)) ry
    rcases he with rfl | rfl
    · exact SeqAt.in_list_reads q2 q1 (SeqAt.canLay_of_shaped h2) (SeqAt.canLay_of_shaped h1) (room_in_shaped h1 hu) ⟨.bl _, H, I, rfl, q _ H (.refl H) rep_bl⟩
    · exact SeqAt.in_tuple_reads q2 q1 (SeqAt.canLay_of_shaped h2) (SeqAt.canLay_of_shaped h1) (room_in_shaped h1 hu) ⟨.bl _, H, I, rfl, q _ H (.refl H) rep_bl⟩
theorem o_notIn (hu : X.A.units + 65 < cLine) : Op2 X (compareOp .NotIn) notInD := by
  intro pins s σ H x y v u Q I rx ry q
  obtain ⟨O, dx, dy, d, fr, r1, r2, e, q⟩ := q
  unfold notInD at e
  cases hb : inB dx dy with
  | none => rw [hb] at e; cases e
  | some b =>
    rw [hb] at e; cases e
    obtain ⟨ds, he, h1, h2, rfl⟩ := inB_some hb
    obtain ⟨as, q1⟩ := Dp.reads I dx x v (r1.dp (SeqAt.canLay_of_shaped h1)) rx
    obtain ⟨bs, q2⟩ := Dp.reads I dy y u (r2.dp (SeqAt.canLay_of_shaped h2)) ry
    rcases he with rfl | rfl
    · exact SeqAt.notIn_list_reads q2 q1 (SeqAt.canLay_of_shaped h2) (SeqAt.canLay_of_shaped h1) (room_in_shaped h1 hu) ⟨.bl _, H, I, rfl, q _ H (.refl H) rep_bl⟩
    · exact SeqAt.notIn_tuple_reads q2 q1 (SeqAt.canLay_of_shaped h2) (SeqAt.canLay_of_shaped h1) (room_in_shaped h1 hu) ⟨.bl _, H, I, rfl, q _ H (.refl H) rep_bl⟩
def isNon : PyData → Bool
  | .none => true
  | _ => false
/-- x is None, x is True -/
def isD : PyData → PyData → Option PyData
  | d, .none => some (.bool (isNon d))
  | .bool a, .bool b => some (.bool (decide (a = b)))
  | _, _ => none
def isNotD : PyData → PyData → Option PyData
  | d, .none => some (.bool (!isNon d))
  | .bool a, .bool b => some (.bool (!decide (a = b)))
  | _, _ => none
theorem rep_isnon {K : PySem.W.Frag} {H : Hp} {O : Addr → Prop} {d : PyData} {v : V} (h : Rep K H O d v) : decide (v = .non) = isNon d := by
  cases d <;> simp only [Rep] at h
  case none => subst h; rfl
  case bool b => subst h; rfl
  case int b => subst h; rfl
  case str b => subst h; rfl
  case list b => obtain ⟨a, xs, rfl, _⟩ := h; rfl
  case tuple b => obtain ⟨a, xs, rfl, _⟩ := h; rfl
  case dict b => obtain ⟨a, xs, rfl, _⟩ := h; rfl
theorem o_is : Op2 X (compareOp .Is) isD := by
  intro pins s σ H x y v u Q I rx ry q
  obtain ⟨O, dx, dy, d, fr, r1, r2, e, q⟩ := q
  unfold isD at e
  split at e
  · cases e
    have r2' : y = .non := by simpa only [Rep] using r2
    subst r2'
    refine op_isN pins s σ H _ _ v u Q I rx ry ⟨rfl, q _ H (.refl H) ?_⟩
    rw [rep_isnon r1]
    exact rep_bl
  · cases e
    simp only [Rep] at r1 r2
    subst r1; subst r2
    exact op_isBl pins s σ H _ _ v u Q I rx ry ⟨_, _, rfl, rfl, q _ H (.refl H) rep_bl⟩
  · cases e
theorem o_isNot : Op2 X (compareOp .IsNot) isNotD := by
  intro pins s σ H x y v u Q I rx ry q
  obtain ⟨O, dx, dy, d, fr, r1, r2, e, q⟩ := q
  unfold isNotD at e
  split at e
  · cases e
    have r2' : y = .non := by simpa only [Rep] using r2
    subst r2'
    refine op_notN pins s σ H _ _ v u Q I rx ry ⟨rfl, q _ H (.refl H) ?_⟩
    rw [rep_isnon r1]
    exact rep_bl
  · cases e
    simp only [Rep] at r1 r2
    subst r1; subst r2
    exact op_notBl pins s σ H _ _ v u Q I rx ry ⟨_, _, rfl, rfl, q _ H (.refl H) rep_bl⟩
  · cases e

/-! ### built-in functions -/
def lenD : List PyData → Option PyData
  | [.list ds] => some (.int ds.length)
  | [.tuple ds] => some (.int ds.length)
  | _ => none
theorem repA1 {K : PySem.W.Frag} {H : Hp} {O : Addr → Prop} {d : PyData} {xs : List V} (h : RepA K H O [d] xs) : ∃ x, xs = [x] ∧ Rep K H O d x := by
  simp only [RepA] at h
  obtain ⟨x, r, rfl, h1, rfl⟩ := h
  exact ⟨x, rfl, h1⟩
theorem repA2 {K : PySem.W.Frag} {H : Hp} {O : Addr → Prop} {d e : PyData} {xs : List V} (h : RepA K H O [d, e] xs) : ∃ x y, xs = [x, y] ∧ Rep K H O d x ∧ Rep K H O e y := by
  simp only [RepA] at h
  obtain ⟨x, r, rfl, h1, y, r2, rfl, h2, rfl⟩ := h
  exact ⟨x, y, rfl, h1, h2⟩
theorem f_len : FnV X (.builtin "len") lenD := by
  intro pins s σ H xs us Q I r q
  obtain ⟨O, ds, d, fr, r1, e, q⟩ := q
  unfold lenD at e
  split at e
  · cases e
    obtain ⟨x, rfl, r2⟩ := repA1 r1
    simp only [Rep] at r2
    obtain ⟨a, vs, rfl, t1, a1⟩ := r2
    refine call_len_seq pins s σ H _ us Q I r ⟨a, vs, rfl, .inl t1.sq, q _ H (.refl H) ?_⟩
    rw [a1.length]
    exact rep_int
  · cases e
    obtain ⟨x, rfl, r2⟩ := repA1 r1
    simp only [Rep] at r2
    obtain ⟨a, vs, rfl, t1, a1⟩ := r2
    refine call_len_seq pins s σ H _ us Q I r ⟨a, vs, rfl, .inr t1, q _ H (.refl H) ?_⟩
    rw [a1.length]
    exact rep_int
  · cases e
def absD : List PyData → Option PyData
  | [.int i] => some (.int (if i < 0 then -i else i))
  | _ => none
theorem f_abs : FnV X (.builtin "abs") absD := by
  intro pins s σ H xs us Q I r q
  obtain ⟨O, ds, d, fr, r1, e, q⟩ := q
  unfold absD at e
  split at e
  · cases e
    obtain ⟨x, rfl, r2⟩ := repA1 r1
    simp only [Rep] at r2
    subst r2
    exact call_abs pins s σ H _ us Q I r ⟨_, rfl, q _ H (.refl H) rep_int⟩
  · cases e
def max2D : List PyData → Option PyData
  | [.int i, .int j] => some (.int (if j > i then j else i))
  | _ => none
def min2D : List PyData → Option PyData
  | [.int i, .int j] => some (.int (if j < i then j else i))
  | _ => none
theorem f_max2 (hc : X.calm = true) : FnV X (.builtin "max") max2D := by
  intro pins s σ H xs us Q I r q
  obtain ⟨O, ds, d, fr, r1, e, q⟩ := q
  unfold max2D at e
  split at e
  · cases e
    obtain ⟨x, y, rfl, r2, r3⟩ := repA2 r1
    simp only [Rep] at r2 r3
    subst r2; subst r3
    exact call_max2 hc pins s σ H _ us Q I r ⟨_, _, rfl, q _ H (.refl H) rep_int⟩
  · cases e
theorem f_min2 (hc : X.calm = true) : FnV X (.builtin "min") min2D := by
  intro pins s σ H xs us Q I r q
  obtain ⟨O, ds, d, fr, r1, e, q⟩ := q
  unfold min2D at e
  split at e
  · cases e
    obtain ⟨x, y, rfl, r2, r3⟩ := repA2 r1
    simp only [Rep] at r2 r3
    subst r2; subst r3
    exact call_min2 hc pins s σ H _ us Q I r ⟨_, _, rfl, q _ H (.refl H) rep_int⟩
  · cases e
def intD : List PyData → Option PyData
  | [.int i] => some (.int i)
  | [.bool b] => some (.int (if b then 1 else 0))
  | _ => none
theorem f_int : FnV X (.type "int") intD := by
  intro pins s σ H xs us Q I r q
  obtain ⟨O, ds, d, fr, r1, e, q⟩ := q
  unfold intD at e
  split at e
  · cases e
    obtain ⟨x, rfl, r2⟩ := repA1 r1
    simp only [Rep] at r2
    subst r2
    exact call_int1 pins s σ H _ us Q I r (.inl ⟨_, rfl, q _ H (.refl H) rep_int⟩)
  · cases e
    obtain ⟨x, rfl, r2⟩ := repA1 r1
    simp only [Rep] at r2
    subst r2
    exact call_int1 pins s σ H _ us Q I r (.inr ⟨_, rfl, q _ H (.refl H) rep_int⟩)
  · cases e
def tupleD : List PyData → Option PyData
  | [.list ds] => some (.tuple ds)
  | [.tuple ds] => some (.tuple ds)
  | _ => none
theorem f_tuple : FnV X (.type "tuple") tupleD := by
  intro pins s σ H xs us Q I r q
  obtain ⟨O, ds, d, fr, r1, e, q⟩ := q
  unfold tupleD at e
  split at e
  · cases e
    obtain ⟨x, rfl, r2⟩ := repA1 r1
    simp only [Rep] at r2
    obtain ⟨a, vs, rfl, t1, a1⟩ := r2
    refine call_tuple_of pins s σ H _ us Q I r ⟨a, vs, rfl, .inl ⟨t1.sq, fun p hp => ?_⟩⟩
    have sm := same_upd (o := .tup vs) hp
    refine q _ _ sm ?_
    simp only [Rep]
    exact ⟨p, vs, rfl, .of upd_same, RepA.kp (Same.kp sm) a1⟩
  · cases e
    obtain ⟨x, rfl, r2⟩ := repA1 r1
    have r2' := r2
    simp only [Rep] at r2
    obtain ⟨a, vs, rfl, t1, a1⟩ := r2
    exact call_tuple_of pins s σ H _ us Q I r ⟨a, vs, rfl, .inr ⟨t1, q _ H (.refl H) r2'⟩⟩
  · cases e
def listD : List PyData → Option PyData
  | [.list ds] => some (.list ds)
  | [.tuple ds] => some (.list ds)
  | _ => none
theorem f_list : FnV X (.type "list") listD := by
  intro pins s σ H xs us Q I r q
  obtain ⟨O, ds, d, fr, r1, e, q⟩ := q
  have fin : ∀ {a : Addr} {vs : List V} {ds : List PyData}, RepA X.K H O ds vs → d = .list ds → ∀ p, H p = none → Q (.ref p) (upd H p (.lst vs)) := by
    rintro a vs ds a1 rfl p hp
    have sm := same_upd (o := .lst vs) hp
    refine q _ _ sm ?_
    simp only [Rep]
    exact ⟨p, vs, rfl, LstAt.rd (.inl upd_same) (fr p hp), RepA.kp (Same.kp sm) a1⟩
  unfold listD at e
  split at e
  · cases e
    obtain ⟨x, rfl, r2⟩ := repA1 r1
    simp only [Rep] at r2
    obtain ⟨a, vs, rfl, t1, a1⟩ := r2
    exact call_list_of pins s σ H _ us Q I r ⟨a, vs, rfl, .inl t1.sq, fin (a := a) a1 rfl⟩
  · cases e
    obtain ⟨x, rfl, r2⟩ := repA1 r1
    simp only [Rep] at r2
    obtain ⟨a, vs, rfl, t1, a1⟩ := r2
    exact call_list_of pins s σ H _ us Q I r ⟨a, vs, rfl, .inr t1, fin (a := a) a1 rfl⟩
  · cases e
def intsOf : List PyData → Option (List Int)
  | [] => some []
  | .int i :: r => match intsOf r with
    | some ns => some (i :: ns)
    | none => none
  | _ :: _ => none
def boolsOf : List PyData → Option (List Bool)
  | [] => some []
  | .bool i :: r => match boolsOf r with
    | some ns => some (i :: ns)
    | none => none
  | _ :: _ => none
theorem intsOf_some : ∀ {ds : List PyData} {ns : List Int}, intsOf ds = some ns → ds = ns.map .int
  | [], ns, h => by cases h; rfl
  | .int i :: r, ns, h => by
    unfold intsOf at h
    split at h
    · cases h; rename_i ms hm; rw [intsOf_some hm]; rfl
    · cases h
  | .none :: _, _, h => by cases h
  | .bool _ :: _, _, h => by cases h
  | .str _ :: _, _, h => by cases h
  | .list _ :: _, _, h => by cases h
  | .tuple _ :: _, _, h => by cases h
  | .dict _ :: _, _, h => by cases h
theorem boolsOf_some : ∀ {ds : List PyData} {ns : List Bool}, boolsOf ds = some ns → ds = ns.map .bool
  | [], ns, h => by cases h; rfl
  | .bool i :: r, ns, h => by
    unfold boolsOf at h
    split at h
    · cases h; rename_i ms hm; rw [boolsOf_some hm]; rfl
    · cases h
  | .none :: _, _, h => by cases h
  | .int _ :: _, _, h => by cases h
  | .str _ :: _, _, h => by cases h
  | .list _ :: _, _, h => by cases h
  | .tuple _ :: _, _, h => by cases h
  | .dict _ :: _, _, h => by cases h
@[simp] theorem intsOf_map (ns : List Int) : intsOf (ns.map .int) = some ns := by
  induction ns with
  | nil => rfl
  | cons n r ih => rw [List.map_cons, intsOf, ih]
@[simp] theorem boolsOf_map (ns : List Bool) : boolsOf (ns.map .bool) = some ns := by
  induction ns with
  | nil => rfl
  | cons n r ih => rw [List.map_cons, boolsOf, ih]
theorem repA_ints {K : PySem.W.Frag} {H : Hp} {O : Addr → Prop} : ∀ {ns : List Int} {xs : List V}, RepA K H O (ns.map .int) xs → xs = ns.map V.int
  | [], xs, h => by simpa only [List.map_nil, RepA] using h
  | n :: r, xs, h => by
    simp only [List.map_cons, RepA] at h
    obtain ⟨x, t, rfl, h1, h2⟩ := h
    simp only [Rep] at h1
    subst h1
    rw [repA_ints h2]
    rfl
theorem repA_bools {K : PySem.W.Frag} {H : Hp} {O : Addr → Prop} : ∀ {ns : List Bool} {xs : List V}, RepA K H O (ns.map .bool) xs → xs = ns.map V.bl
  | [], xs, h => by simpa only [List.map_nil, RepA] using h
  | n :: r, xs, h => by
    simp only [List.map_cons, RepA] at h
    obtain ⟨x, t, rfl, h1, h2⟩ := h
    simp only [Rep] at h1
    subst h1
    rw [repA_bools h2]
    rfl
theorem repA_of_ints {K : PySem.W.Frag} {H : Hp} {O : Addr → Prop} (ns : List Int) : RepA K H O (ns.map .int) (ns.map V.int) := by
  induction ns with
  | nil => exact .nil
  | cons n r ih => exact .cons rep_int ih
def sumD : List PyData → Option PyData
  | [.list ds] => match intsOf ds with
    | some ns => some (.int ns.sum)
    | none => none
  | _ => none
theorem f_sum (hc : X.calm = true) : FnV X (.builtin "sum") sumD := by
  intro pins s σ H xs us Q I r q
  obtain ⟨O, ds, d, fr, r1, e, q⟩ := q
  unfold sumD at e
  split at e
  · split at e
    · cases e
      rename_i hn
      obtain ⟨x, rfl, r2⟩ := repA1 r1
      simp only [Rep] at r2
      obtain ⟨a, vs, rfl, t1, a1⟩ := r2
      rw [intsOf_some hn] at a1
      obtain rfl := repA_ints a1
      exact cr_sum hc pins s σ H _ us Q I r ⟨a, _, rfl, t1.sq, q _ H (.refl H) rep_int⟩
    · cases e
  · cases e
def allD : List PyData → Option PyData
  | [.list ds] => match boolsOf ds with
    | some ns => some (.bool (ns.all id))
    | none => none
  | _ => none
def anyD : List PyData → Option PyData
  | [.list ds] => match boolsOf ds with
    | some ns => some (.bool (ns.any id))
    | none => none
  | _ => none
theorem f_all (hc : X.calm = true) : FnV X (.builtin "all") allD := by
  intro pins s σ H xs us Q I r q
  obtain ⟨O, ds, d, fr, r1, e, q⟩ := q
  unfold allD at e
  split at e
  · split at e
    · cases e
      rename_i hn
      obtain ⟨x, rfl, r2⟩ := repA1 r1
      simp only [Rep] at r2
      obtain ⟨a, vs, rfl, t1, a1⟩ := r2
      rw [boolsOf_some hn] at a1
      obtain rfl := repA_bools a1
      exact cr_all hc pins s σ H _ us Q I r ⟨a, _, rfl, t1.sq, q _ H (.refl H) rep_bl⟩
    · cases e
  · cases e
def maxI : Int → List Int → Int
  | m, [] => m
  | m, n :: r => maxI (if m < n then n else m) r
def minI : Int → List Int → Int
  | m, [] => m
  | m, n :: r => minI (if n < m then n else m) r
theorem maxI_spec : ∀ (r : List Int) (m : Int), (maxI m r = m ∨ maxI m r ∈ r) ∧ m ≤ maxI m r ∧ ∀ y ∈ r, y ≤ maxI m r
  | [], m => ⟨.inl rfl, Int.le_refl _, fun _ h => nomatch h⟩
  | n :: r, m => by
    obtain ⟨h1, h2, h3⟩ := maxI_spec r (if m < n then n else m)
    have e0 : maxI m (n :: r) = maxI (if m < n then n else m) r := rfl
    rw [e0]
    generalize maxI (if m < n then n else m) r = z at *
    refine ⟨?_, ?_, fun y hy => ?_⟩
    · rcases h1 with h1 | h1
      · rw [h1]; split
        · exact .inr List.mem_cons_self
        · exact .inl rfl
      · exact .inr (List.mem_cons_of_mem _ h1)
    · split at h2 <;> omega
    · rcases List.mem_cons.mp hy with e | hy
      · subst e; split at h2 <;> omega
      · exact h3 y hy
theorem minI_spec : ∀ (r : List Int) (m : Int), (minI m r = m ∨ minI m r ∈ r) ∧ minI m r ≤ m ∧ ∀ y ∈ r, minI m r ≤ y
  | [], m => ⟨.inl rfl, Int.le_refl _, fun _ h => nomatch h⟩
  | n :: r, m => by
    obtain ⟨h1, h2, h3⟩ := minI_spec r (if n < m then n else m)
    have e0 : minI m (n :: r) = minI (if n < m then n else m) r := rfl
    rw [e0]
    generalize minI (if n < m then n else m) r = z at *
    refine ⟨?_, ?_, fun y hy => ?_⟩
    · rcases h1 with h1 | h1
      · rw [h1]; split
        · exact .inr List.mem_cons_self
        · exact .inl rfl
      · exact .inr (List.mem_cons_of_mem _ h1)
    · split at h2 <;> omega
    · rcases List.mem_cons.mp hy with e | hy
      · subst e; split at h2 <;> omega
      · exact h3 y hy
def maxLD : List PyData → Option PyData
  | [.list ds] => match intsOf ds with
    | some (n :: r) => some (.int (maxI n r))
    | _ => none
  | _ => none
def minLD : List PyData → Option PyData
  | [.list ds] => match intsOf ds with
    | some (n :: r) => some (.int (minI n r))
    | _ => none
  | _ => none
theorem f_maxL (hc : X.calm = true) : FnV X (.builtin "max") maxLD := by
  intro pins s σ H xs us Q I r q
  obtain ⟨O, ds, d, fr, r1, e, q⟩ := q
  unfold maxLD at e
  split at e
  · split at e
    · cases e
      rename_i n t hn
      obtain ⟨x, rfl, r2⟩ := repA1 r1
      simp only [Rep] at r2
      obtain ⟨a, vs, rfl, t1, a1⟩ := r2
      rw [intsOf_some hn] at a1
      obtain rfl := repA_ints a1
      refine cr_max hc pins s σ H _ us Q I r ⟨a, _, rfl, t1.sq, by simp, fun m hm hle => ?_⟩
      obtain ⟨h1, h2, h3⟩ := maxI_spec t n
      have e1 : maxI n t ≤ m := hle _ (by rcases h1 with h | h; rw [h]; exact List.mem_cons_self; exact List.mem_cons_of_mem _ h)
      have e2 : m ≤ maxI n t := by
        rcases List.mem_cons.mp hm with rfl | hm
        · exact h2
        · exact h3 m hm
      have : m = maxI n t := Int.le_antisymm e2 e1
      subst this
      exact q _ H (.refl H) rep_int
    · cases e
  · cases e
theorem f_minL (hc : X.calm = true) : FnV X (.builtin "min") minLD := by
  intro pins s σ H xs us Q I r q
  obtain ⟨O, ds, d, fr, r1, e, q⟩ := q
  unfold minLD at e
  split at e
  · split at e
    · cases e
      rename_i n t hn
      obtain ⟨x, rfl, r2⟩ := repA1 r1
      simp only [Rep] at r2
      obtain ⟨a, vs, rfl, t1, a1⟩ := r2
      rw [intsOf_some hn] at a1
      obtain rfl := repA_ints a1
      refine cr_min hc pins s σ H _ us Q I r ⟨a, _, rfl, t1.sq, by simp, fun m hm hle => ?_⟩
      obtain ⟨h1, h2, h3⟩ := minI_spec t n
      have e1 : m ≤ minI n t := hle _ (by rcases h1 with h | h; rw [h]; exact List.mem_cons_self; exact List.mem_cons_of_mem _ h)
      have e2 : minI n t ≤ m := by
        rcases List.mem_cons.mp hm with rfl | hm
        · exact h2
        · exact h3 m hm
      have : m = minI n t := Int.le_antisymm e1 e2
      subst this
      exact q _ H (.refl H) rep_int
    · cases e
  · cases e

/-! ### repr -/
mutual
/-- data that repr is served of: no dict but {} -/
def layD : PyData → Bool
  | .none | .bool _ | .int _ => true
  | .str _ => true
  | .list xs | .tuple xs => layA xs
  | .dict kvs => kvs.isEmpty
def layA : List PyData → Bool
  | [] => true
  | x :: xs => layD x && layA xs
end
mutual
def noL : PyData → Bool
  | .none | .bool _ | .int _ | .str _ => true
  | .list _ => false
  | .tuple xs => noLA xs
  | .dict _ => true
def noLA : List PyData → Bool
  | [] => true
  | x :: xs => noL x && noLA xs
end
section
variable {pins : List (Addr × Obj)} {σ : L2.St} {H : Hp} {s : Shared} {O : Addr → Prop}
mutual
theorem Rep.reads (I : Inv X pins σ H s) : ∀ {d : PyData} {v : V} {u : Value}, layD d = true → Rep X.K H O d v → RelV v u → ∃ as, Reads s.heap u d as ∧ (noL d = true → sysModules ∉ as)
  | .none, _, _, _, h, r => by
    simp only [Rep] at h
    subst h
    cases r
    exact ⟨_, Reads.none, fun _ z => nomatch z⟩
  | .bool b, _, _, _, h, r => by
    simp only [Rep] at h
    subst h
    cases r
    exact ⟨_, Reads.bool b, fun _ z => nomatch z⟩
  | .int i, _, _, _, h, r => by
    simp only [Rep] at h
    subst h
    obtain ⟨t, rfl⟩ := r
    exact ⟨_, Reads.int i t, fun _ z => nomatch z⟩
  | .str x, _, _, _, h, r => by
    simp only [Rep] at h
    subst h
    obtain ⟨t, rfl⟩ := r
    exact ⟨_, Reads.str x t, fun _ z => nomatch z⟩
  | .list ds, _, _, l, h, r => by
    simp only [Rep] at h
    simp only [layD] at l
    obtain ⟨a, xs, rfl, h1, h2⟩ := h
    cases r
    obtain ⟨its, rv, ⟨o, n, ho, hc, _, hd⟩, _⟩ := I.list (h1.sq (K := X.K))
    obtain ⟨as, hr, _⟩ := RepA.reads I l h2 rv
    exact ⟨_, Reads.list ho hc hd hr, fun z => by simp only [noL] at z; cases z⟩
  | .tuple ds, _, _, l, h, r => by
    simp only [Rep] at h
    simp only [layD] at l
    obtain ⟨a, xs, rfl, h1, h2⟩ := h
    cases r
    obtain ⟨its, rv, ⟨o, ho, hc, n, hd⟩, _⟩ := I.tuple h1
    obtain ⟨as, hr, hn⟩ := RepA.reads I l h2 rv
    exact ⟨_, Reads.tuple ho hc hd hr, fun z => by simp only [noL] at z; exact hn z⟩
  | .dict kvs, _, _, l, h, r => by
    simp only [Rep] at h
    simp only [layD, List.isEmpty_iff] at l
    subst l
    obtain ⟨a, xs, rfl, _, h1, h2⟩ := h
    simp only [RepV] at h2
    subst h2
    cases r
    rcases h1 with ⟨l, h1, e1, e2⟩ | ⟨l, h1, e1, e2⟩
    · have : l = [] := by cases l with
        | nil => rfl
        | cons p r => simp at e2
      subst this
      obtain ⟨_, hy, vs, r', o, es, ep, ho, hx, hd, _, hp, _⟩ := dk_rd I.hok h1
      have hv : vs = [] := List.eq_nil_of_length_eq_zero (by have := KV.length r'; simpa using this.symm)
      subst hv
      have he : es.toList = [] := by
        have := hp.length
        exact List.eq_nil_of_length_eq_zero (by simpa using this)
      refine ⟨_, Reads.dict (kvs := []) ho hx.1 hd (by rw [he]; exact .nil) (by rw [he]; exact .nil), fun _ z => ?_⟩
      have z' : sysModules = a := by simpa using z
      rw [z'] at hy
      simp at hy
    · have : l = [] := by cases l with
        | nil => rfl
        | cons p r => simp at e2
      subst this
      obtain ⟨_, hy, vs, r', o, es, ep, ho, hx, hd, he, _⟩ := dt_rd I.hok h1
      have hv : vs = [] := List.eq_nil_of_length_eq_zero (by have := Paired.length r'; simpa using this.symm)
      subst hv
      have he : es.toList = [] := by simpa using he
      refine ⟨_, Reads.dict (kvs := []) ho hx.1 hd (by rw [he]; exact .nil) (by rw [he]; exact .nil), fun _ z => ?_⟩
      have z' : sysModules = a := by simpa using z
      rw [z'] at hy
      simp at hy
theorem RepA.reads (I : Inv X pins σ H s) : ∀ {ds : List PyData} {vs : List V} {us : List Value}, layA ds = true → RepA X.K H O ds vs → Vals vs us → ∃ as, ReadsAll s.heap us ds as ∧ (noLA ds = true → sysModules ∉ as)
  | [], _, _, _, h, r => by
    simp only [RepA] at h
    subst h
    cases r
    exact ⟨_, ReadsAll.nil, fun _ z => nomatch z⟩
  | d :: ds, _, _, l, h, r => by
    simp only [RepA] at h
    simp only [layA, Bool.and_eq_true] at l
    obtain ⟨x, t, rfl, h1, h2⟩ := h
    cases r with
    | cons r1 r2 =>
      obtain ⟨as, q1, n1⟩ := Rep.reads I l.1 h1 r1
      obtain ⟨bs, q2, n2⟩ := RepA.reads I l.2 h2 r2
      refine ⟨_, ReadsAll.cons q1 q2, fun z m => ?_⟩
      simp only [noLA, Bool.and_eq_true] at z
      rcases List.mem_append.mp m with m | m
      · exact n1 z.1 m
      · exact n2 z.2 m
end
end
def reprOk (d : PyData) : Bool := d.showable && layD d && (!d.hasDict || noL d) && decide (d.shown.length ≤ sizeLine) && decide (d.depth ≤ 60)
def reprD : List PyData → Option PyData
  | [d] => if reprOk d then some (.str d.shown) else none
  | _ => none
theorem f_repr (hg : X.A.guards = some []) (hu : X.A.units + 64 < cLine) : FnV X (.builtin "repr") reprD := by
  intro pins s σ H xs us Q I r q
  obtain ⟨O, ds, d, fr, r1, e, q⟩ := q
  unfold reprD at e
  split at e
  · rename_i dd
    split at e
    · cases e
      rename_i hb
      unfold reprOk at hb
      simp only [Bool.and_eq_true, Bool.or_eq_true, Bool.not_eq_true', decide_eq_true_eq] at hb
      obtain ⟨⟨⟨⟨h1, h2⟩, h5⟩, h3⟩, h4⟩ := hb
      obtain ⟨x, rfl, r2⟩ := repA1 r1
      obtain ⟨u, rfl, rx⟩ := vals1 r
      have fin : Q (.str dd.shown) H := q _ H (.refl H) rep_str
      obtain ⟨as, rd, hn⟩ := Rep.reads I h2 r2 rx
      have hsm : dd.hasDict = true → sysModules ∉ as := fun z => by
        rcases h5 with h5 | h5
        · rw [h5] at z; cases z
        · exact hn h5
      have big : ∀ {a : Addr}, u = .ref a → wpAny (model X.prog X.w) X.A (call (.builtin "repr") [u]) (EP X pins σ Q) X.xe s := fun {a} e => by
        subst e
        exact repr_of_reads' rd h1 hsm hg (by omega) (fun _ _ e => e) (fun h' u tk k => ⟨.str dd.shown, H, I.kept k, ⟨_, rfl⟩, fin⟩) h3
      cases dd with
      | none =>
        simp only [Rep] at r2
        subst r2
        cases rx
        simp only [PyData.shown] at fin
        exact PySem.P.repr_of_none ⟨.str "None", H, I.tok _, ⟨_, rfl⟩, fin⟩
      | bool b =>
        simp only [Rep] at r2
        subst r2
        cases rx
        simp only [PyData.shown] at fin
        exact PySem.P.repr_of_bool ⟨.str (if b then "True" else "False"), H, I.tok _, ⟨_, rfl⟩, fin⟩
      | int i =>
        simp only [Rep] at r2
        subst r2
        obtain ⟨t, rfl⟩ := rx
        simp only [PyData.shown] at fin
        exact PySem.P.repr_of_int (by simpa [PyData.showable] using h1) ⟨.str (toString i), H, I.tok _, ⟨_, rfl⟩, fin⟩
      | str z =>
        simp only [Rep] at r2
        subst r2
        obtain ⟨t, rfl⟩ := rx
        simp only [PyData.shown] at fin h3
        exact PySem.P.repr_of_str ⟨.str (reprText z), H, I.tok _, ⟨_, rfl⟩, fin⟩ h3
      | list ds =>
        simp only [Rep] at r2
        obtain ⟨a, vs, rfl, _⟩ := r2
        cases rx
        exact big rfl
      | tuple ds =>
        simp only [Rep] at r2
        obtain ⟨a, vs, rfl, _⟩ := r2
        cases rx
        exact big rfl
      | dict kvs =>
        simp only [Rep] at r2
        obtain ⟨a, vs, rfl, _⟩ := r2
        cases rx
        exact big rfl
    · cases e
  · cases e

/-! ### isinstance -/
def tyD : PyData → String
  | .none => "NoneType"
  | .bool _ => "bool"
  | .int _ => "int"
  | .str _ => "str"
  | .list _ => "list"
  | .tuple _ => "tuple"
  | .dict _ => "dict"
def isiT (t c : String) : Bool := t == c || (t == "bool" && c == "int")
theorem Rep.kit {pins : List (Addr × Obj)} {σ : L2.St} {H : Hp} {s : Shared} {O : Addr → Prop} {d : PyData} {v : V} {u : Value} (I : Inv X pins σ H s) (rx : RelV v u) (h : Rep X.K H O d v) :
    ∃ P : Heap → Prop, PySem.W.KitX X.K u (.type (tyD d)) P ∧ P s.heap ∧ ∀ id : String, u ≠ .builtin id := by
  have more : ∀ {t : Value} {q : Prop}, (∃ P : Heap → Prop, PySem.W.KitX X.K u t P ∧ P s.heap ∧ q) → (∀ id : String, u ≠ .builtin id) → ∃ P : Heap → Prop, PySem.W.KitX X.K u t P ∧ P s.heap ∧ ∀ id : String, u ≠ .builtin id := fun h n => by
    obtain ⟨P, h1, h2, _⟩ := h
    exact ⟨P, h1, h2, n⟩
  have ref : ∀ {a : Addr}, RelV (.ref a) u → ∀ id : String, u ≠ .builtin id := fun {a} r id z => by
    cases r
    cases z
  cases d with
  | none => simp only [Rep] at h; subst h; exact more (kit_of I rx (.base .non)) fun id z => by cases rx; cases z
  | bool b => simp only [Rep] at h; subst h; exact more (kit_of I rx (.base (.bl b))) fun id z => by cases rx; cases z
  | int i => simp only [Rep] at h; subst h; exact more (kit_of I rx (.base (.int i))) fun id z => by obtain ⟨t, rfl⟩ := rx; cases z
  | str x => simp only [Rep] at h; subst h; exact more (kit_of I rx (.base (.str x))) fun id z => by obtain ⟨t, rfl⟩ := rx; cases z
  | list ds =>
    simp only [Rep] at h
    obtain ⟨a, xs, rfl, ⟨h1 | ⟨o, h1⟩, _⟩ | ⟨o, its, n, h1, h2, _⟩, _⟩ := h
    · exact more (kit_of I rx (.base (.lst h1))) (ref rx)
    · exact more (kit_of I rx (.base (.frz h1))) (ref rx)
    · exact more (kit_of I rx (.kList h1 h2)) (ref rx)
  | tuple ds =>
    simp only [Rep] at h
    obtain ⟨a, xs, rfl, (h1 | ⟨o, h1⟩) | ⟨o, its, n, h1, h2, _⟩, _⟩ := h
    · exact more (kit_of I rx (.base (.tup h1))) (ref rx)
    · exact more (kit_of I rx (.fTuple h1)) (ref rx)
    · exact more (kit_of I rx (.kTuple h1 h2)) (ref rx)
  | dict kvs =>
    simp only [Rep] at h
    obtain ⟨a, xs, rfl, _, ⟨l, h1 | ⟨o, h1⟩, _⟩ | ⟨l, h1, _⟩, _⟩ := h
    · exact more (kit_of I rx (.base (.dK h1))) (ref rx)
    · exact more (kit_of I rx (.fDict h1)) (ref rx)
    · cases rx
      obtain ⟨_, _, xs, _, o, es, ep, ho, hx, _⟩ := dt_rd I.hok h1
      exact ⟨_, PySem.W.kitx_dict, ⟨o, ho, hx.1⟩, fun id z => nomatch z⟩
def isiOk (c : String) : Bool := ["int", "bool", "tuple", "list", "str", "dict"].contains c
theorem isi_kit (d : PyData) (c : String) (h : isiOk c = true) : kitB (tyD d) c = some (isiT (tyD d) c) := by
  unfold isiOk at h
  simp only [List.contains_cons, List.contains_nil, Bool.or_false, Bool.or_eq_true, beq_iff_eq] at h
  have all : ∀ t ∈ ["NoneType", "bool", "int", "str", "list", "tuple", "dict"], ∀ c ∈ ["int", "bool", "tuple", "list", "str", "dict"], kitB t c = some (isiT t c) := by decide +kernel
  refine all _ ?_ _ ?_
  · cases d <;> simp [tyD]
  · rcases h with h | h | h | h | h | h <;> simp [h]
/-- isinstance(e, T) -/
def mIsi (c : String) (m : M Opd) : M PyData := mUn (fun d => if isiOk c then some (.bool (isiT (tyD d) c)) else none) m
theorem ed_isi {ks : List Kd} {ps : List (Nat × V)} {e : Expr} {T x : Str} {c : String} {p p2 pos : Pos} {m : M Opd} (hx : x = "isinstance") (hg : Gl X x) (hm : X.mg x = none) (hgT : Gl X T) (hmT : X.mg T = none) (hvT : bootBuiltins T = some (.type c))
    (ha : RD X ks ps e m) (hnT : T ≠ "__name__" := by decide) (hdT : (T == ("__debug__" : Str)) = false := by decide)
    (he : starEach [e, .Name T p2] X.env = (false, eval e X.env) :: starEach [.Name T p2] X.env := by rfl) (hpl : (backTo pos (starEach [.Name T p2] X.env)).any (·.1) = false := by rfl)
    (he2 : starEach [.Name T p2] X.env = (false, eval (.Name T p2) X.env) :: starEach [] X.env := by rfl) : ED X ks ps (.Call (.Name x p) [e, .Name T p2] [] pos) (mIsi c m) := by
  subst hx
  have hc : CallR X (.builtin "isinstance") (fun xs H Q => ∃ O d v, xs = [v, .ty c] ∧ Rep X.K H O d v ∧ isiOk c = true ∧ Q (.bl (isiT (tyD d) c)) H) := by
    intro pins s σ H xs us Q I r h
    obtain ⟨O, d, v, rfl, hr, hk, q⟩ := h
    obtain ⟨u1, u2, rfl, r1, r2⟩ := vals2 r
    obtain rfl : u2 = Value.type c := r2
    obtain ⟨P, Z, pp, hx⟩ := Rep.kit I r1 hr
    exact PySem.W.kia_one Z I.kIn pp (kit_ty (isi_kit d c hk)) (hx _) fun tk => ⟨.bl (isiT (tyD d) c), H, I.tok tk, rfl, q⟩
  refine PE.imp (pe_callB hc hg hm (by decide +kernel) (pa_cons ha (pa_cons (pe_bltn (v := .ty c) hgT hmT hvT rfl hnT hdT) pa_nil he2) he) (by decide) (by decide) he hpl) fun σ H Q q => ?_
  obtain ⟨G, F, env, d, env', I, hm, q⟩ := q
  obtain ⟨ox, e1, h1, h2⟩ := bnd_some hm
  obtain ⟨rfl, dx, g1, g3, gi⟩ := rs1_some h2
  refine ⟨G, F, env, ox, env', I, h1, fun v F1 H1 S1 I1 r1 => ⟨_, dx, v, rfl, HoldsO.rep I1 r1 g1, ?_⟩⟩
  split at g3
  · rename_i hk
    cases g3
    exact ⟨hk, q _ F1 H1 S1 I1 rep_bl⟩
  · cases g3
end
end DL

/-! DLD: subscripts, slices; statements, loops, comprehensions. -/
namespace DL
open PySem PySem.Spec PyProof.Rows L2
section
variable {rk : Kd} {X : Cx} {ks : List Kd} {ps : List (Nat × V)} {a b c e o i : Expr} {es : List Expr} {pos pos' : Pos}

/-! ### subscripts -/
def itemD : PyData → PyData → Option PyData
  | .list ds, .int i => atI ds i
  | .tuple ds, .int i => atI ds i
  | .str z, .int i => if z.length ≤ sizeLine then (atI z.cps.toList i).map fun c => .str ⟨#[c]⟩ else none
  | _, _ => none
theorem RepA.at {K : PySem.W.Frag} {H : Hp} {O : Addr → Prop} {ds : List PyData} {xs : List V} {i : Int} {d : PyData} (h : RepA K H O ds xs) (e : atI ds i = some d) : ∃ x, atI xs i = some x ∧ Rep K H O d x := by
  unfold atI at e ⊢
  rw [← h.length]
  cases q : ixN ds.length i with
  | none => rw [q] at e; cases e
  | some j =>
    rw [q] at e
    exact h.get e
theorem ix_data : IxR X (fun x y H Q => ∃ O dx dy d, (∀ p, H p = none → ¬ O p) ∧ Rep X.K H O dx x ∧ Rep X.K H O dy y ∧ itemD dx dy = some d ∧ ∀ v H', Same H H' → Rep X.K H' O d v → Q v H') := by
  intro value slice pins s σ H x y v u Q I rx ry q hs
  obtain ⟨O, dx, dy, d, fr, r1, r2, e, q⟩ := q
  unfold itemD at e
  split at e
  · simp only [Rep] at r1 r2
    obtain ⟨p, vs, rfl, t1, a1⟩ := r1
    subst r2
    obtain ⟨w, hw, hr⟩ := a1.at e
    exact ix_list value slice pins s σ H _ _ v u Q I rx ry ⟨p, vs, _, w, rfl, rfl, t1.sq, hw, q w H (.refl H) hr⟩ hs
  · simp only [Rep] at r1 r2
    obtain ⟨p, vs, rfl, t1, a1⟩ := r1
    subst r2
    obtain ⟨w, hw, hr⟩ := a1.at e
    exact ix_tup value slice pins s σ H _ _ v u Q I rx ry ⟨p, vs, _, w, rfl, rfl, t1, hw, q w H (.refl H) hr⟩ hs
  · split at e
    · rename_i hz
      obtain ⟨c, hc, rfl⟩ := Option.map_eq_some_iff.mp e
      simp only [Rep] at r1 r2
      subst r1; subst r2
      exact ix_str value slice pins s σ H _ _ v u Q I rx ry ⟨_, _, c, rfl, rfl, hz, hc, q _ H (.refl H) rep_str⟩ hs
    · cases e
  · cases e
theorem ed_ix {ma mb : M Opd} (ha : RD X ks ps a ma) (hb : RD X ks ps b mb) (hs : PlainIx b) : ED X ks ps (.Subscript a b pos) (mBin itemD ma mb) :=
  PE.imp (pe_ix ix_data ha hb hs) fun σ H Q q => red2 (fun x y H Q z => z) q

/-! ### slices -/
def cutD (ds : List PyData) (lo hi : Option Int) : List PyData := (ds.drop (HT.sIx ds.length 0 lo)).take (HT.sIx ds.length ds.length hi - HT.sIx ds.length 0 lo)
def sliceD (lo hi : Option Int) : PyData → Option PyData
  | .list ds => some (.list (cutD ds lo hi))
  | .tuple ds => some (.tuple (cutD ds lo hi))
  | _ => none
theorem RepA.cut {K : PySem.W.Frag} {H : Hp} {O : Addr → Prop} {ds : List PyData} {xs : List V} (lo hi : Option Int) (h : RepA K H O ds xs) : RepA K H O (cutD ds lo hi) (cutV xs lo hi) := by
  unfold cutD cutV
  rw [← h.length]
  exact (h.drop _).take _
theorem sl_data : SlR X (fun x lo hi H Q => ∃ O dx d, (∀ p, H p = none → ¬ O p) ∧ Rep X.K H O dx x ∧ sliceD lo hi dx = some d ∧ ∀ v H', Same H H' → Rep X.K H' O d v → Q v H') := by
  intro pins s σ H x v vl vu lo hi sl Q I rx hsl pl pu q
  obtain ⟨O, dx, d, fr, r1, e, q⟩ := q
  unfold sliceD at e
  split at e
  · cases e
    simp only [Rep] at r1
    obtain ⟨p, vs, rfl, t1, a1⟩ := r1
    refine sl_list pins s σ H _ v vl vu lo hi sl Q I rx hsl pl pu ⟨p, vs, rfl, t1.sq, fun l hl => ?_⟩
    have sm := same_upd (o := .lst (cutV vs lo hi)) hl
    refine q _ _ sm ?_
    simp only [Rep]
    exact ⟨l, _, rfl, LstAt.rd (.inl upd_same) (fr l hl), RepA.kp (Same.kp sm) (a1.cut lo hi)⟩
  · cases e
    have r1' := r1
    simp only [Rep] at r1
    obtain ⟨p, vs, rfl, t1, a1⟩ := r1
    refine sl_tupA pins s σ H _ v vl vu lo hi sl Q I rx hsl pl pu ⟨p, vs, rfl, t1, fun hw => ?_, fun hw l hl => ?_⟩
    · refine q _ H (.refl H) ?_
      have : cutD (by assumption) lo hi = (by assumption) := by
        unfold cutD
        rw [a1.length, hw.1, hw.2, ← a1.length]
        simp
      rw [this]
      exact r1'
    · have sm := same_upd (o := .tup (cutV vs lo hi)) hl
      refine q _ _ sm ?_
      simp only [Rep]
      exact ⟨l, _, rfl, .of upd_same, RepA.kp (Same.kp sm) (a1.cut lo hi)⟩
  · cases e
/-- a part of a slice -/
abbrev PartD (X : Cx) (ks : List Kd) (ps : List (Nat × V)) (e : Option Expr) (m : M (Option Int)) : Prop :=
  PO X e (fun σ H Q => ∃ G F env d env', EI X.K ks ps G F σ H env ∧ m env = some (d, env') ∧ ∀ F' H', Stp F H F' H' → EI X.K ks ps G F' σ H' env' → Q d H')
theorem PO.imp {X : Cx} {e : Option Expr} {t t' : TO} (h : PO X e t) (w : ∀ σ H Q, t' σ H Q → t σ H Q) : PO X e t' := ⟨fun pins s σ H Q I q => h.run pins s σ H Q I (w σ H Q q)⟩
def mNoPart : M (Option Int) := ret none
def iOf : PyData → Option (Option Int)
  | .int i => some (some i)
  | _ => none
def mPart (m : M PyData) : M (Option Int) := bnd m fun d => lft (iOf d)
theorem pd_none : PartD X ks ps none mNoPart := PO.imp po_none fun σ H Q q => by
  obtain ⟨G, F, env, d, env', I, hm, q⟩ := q
  cases hm
  exact q F H .refl I
theorem pd_some {m : M PyData} (h : ED X ks ps e m) : PartD X ks ps (some e) (mPart m) := PO.imp (po_some h) fun σ H Q q => by
  obtain ⟨G, F, env, d, env', I, hm, q⟩ := q
  obtain ⟨x, e1, h1, h2⟩ := bnd_some hm
  obtain ⟨h2, rfl⟩ := lft_some h2
  refine ⟨G, F, env, x, env', I, h1, fun v F' H' S J r => ?_⟩
  cases x with
  | int i =>
    cases h2
    simp only [Rep] at r
    exact ⟨i, r, q F' H' S J⟩
  | _ => cases h2
def mSl (m : M Opd) (l h : M (Option Int)) : M PyData := bnd m fun o => bnd l fun lo => bnd h fun hi => rs1 (sliceD lo hi) o
theorem ed_sl {lo hi : Option Expr} {p2 : Pos} {m : M Opd} {l h : M (Option Int)} (ha : RD X ks ps a m) (hl : PartD X ks ps lo l) (hh : PartD X ks ps hi h) : ED X ks ps (.Subscript a (.Slice lo hi none p2) pos) (mSl m l h) :=
  PE.imp (pe_slice sl_data ha hl hh) fun σ H Q q => by
    obtain ⟨G, F, env, d, env', I, hm, q⟩ := q
    obtain ⟨ox, e1, h1, h2⟩ := bnd_some hm
    obtain ⟨l1, e2, h3, h4⟩ := bnd_some h2
    obtain ⟨u1, e3, h5, h6⟩ := bnd_some h4
    obtain ⟨rfl, dx, g1, g3, gi⟩ := rs1_some h6
    refine ⟨G, F, env, ox, e1, I, h1, fun v F1 H1 S1 I1 r1 => ⟨G, F1, e1, l1, e2, I1, h3, fun F2 H2 S2 I2 => ⟨G, F2, e2, u1, env', I2, h5, fun F3 H3 S3 I3 => ?_⟩⟩⟩
    refine ⟨_, dx, d, fresh_if I3, HoldsO.rep I3 ((r1.stp S2).stp S3) g1, g3, fun w H4 s4 r4 => ?_⟩
    exact q w F3 H4 (((S1.trans S2).trans S3).trans (.same s4)) (I3.same s4) (ifown gi r4)
/-- xs[::-1] -/
def revD : PyData → Option PyData
  | .list ds => some (.list ds.reverse)
  | _ => none
theorem ed_revL {k : Nat} {p1 p2 p3 : Pos} {m : M Opd} (ha : RD X ks ps a m) : ED X ks ps (.Subscript a (.Slice none none (some (.UnaryOp .USub (.Constant (.int 1) k p1) p2)) p3) pos) (mUn revD m) :=
  PE.imp (pe_revL ha) fun σ H Q q => by
    obtain ⟨G, F, env, d, env', I, hm, q⟩ := q
    obtain ⟨ox, e1, h1, h2⟩ := bnd_some hm
    obtain ⟨rfl, dx, g1, g3, gi⟩ := rs1_some h2
    refine ⟨G, F, env, ox, env', I, h1, fun v F1 H1 S1 I1 r1 => ?_⟩
    have r := HoldsO.rep I1 r1 g1
    unfold revD at g3
    split at g3
    · cases g3
      simp only [Rep] at r
      obtain ⟨p, vs, rfl, t1, a1⟩ := r
      refine ⟨p, vs, rfl, t1.sq, fun l hl => ?_⟩
      have sm := same_upd (o := .lst vs.reverse) hl
      refine q _ F1 _ (S1.trans (.same sm)) (I1.same sm) (ifown gi ?_)
      simp only [Rep]
      exact ⟨l, _, rfl, LstAt.rd (.inl upd_same) (fresh_if I1 l hl), RepA.kp (Same.kp sm) a1.reverse⟩
    · cases g3

/-! ### what is new and one's own -/
def tF (K : PySem.W.Frag) (ks : List Kd) (ps : List (Nat × V)) (kd : Kd) (m : M PyData) : TE := fun σ H Q => ∃ G F env d env', EI K ks ps G F σ H env ∧ m env = some (d, env') ∧
  ∀ v F' H' Fr, Stp F H F' H' → EI K ks ps (fun a => G a ∨ a ∈ Fr) F' σ H' env' → OwnAt K H' (OO (fun a => G a ∨ a ∈ Fr) F') kd Fr d v → Fr.Nodup → (∀ a ∈ Fr, ¬ G a ∧ (a ∈ F.flatten ∨ H a = none)) → Q v H'
abbrev FD (X : Cx) (ks : List Kd) (ps : List (Nat × V)) (kd : Kd) (e : Expr) (m : M PyData) : Prop := PE X e (tF X.K ks ps kd m)
theorem noneG {G : Addr → Prop} : (fun a => G a ∨ a ∈ ([] : List Addr)) = G := by funext a; simp
theorem fd_frz {m : M PyData} (h : ED X ks ps e m) : FD X ks ps .frz e m := PE.imp h fun σ H Q q => by
  obtain ⟨G, F, env, d, env', I, hm, q⟩ := q
  refine ⟨G, F, env, d, env', I, hm, fun v F' H' S J r => q v F' H' [] S (by rw [noneG]; exact J) ⟨rfl, by rw [noneG]; exact r⟩ List.nodup_nil fun a ha => nomatch ha⟩

/-! ### blocks, statements -/
abbrev B := Ev → Option Out
def sSeq (m n : B) : B := fun e => match m e with
  | some (.nx e') => n e'
  | r => r
def sNx : B := fun e => some (.nx e)
def sBk : B := fun e => some (.bk e)
def sCt : B := fun e => some (.ct e)
def sNo : B := fun _ => none
theorem ss_nil : SsD X ks ps rk [] sNx := PSs.imp pss_nil fun D σ H q => by
  obtain ⟨G, F, env, out, I, hm, q⟩ := q
  cases hm
  exact q σ F H .refl I
theorem ss_cons {st : Stmt} {sts : List Stmt} {m n : B} (h1 : SD X ks ps rk st m) (h2 : SsD X ks ps rk sts n) : SsD X ks ps rk (st :: sts) (sSeq m n) := PSs.imp (pss_cons h1 h2) fun D σ H q => by
  obtain ⟨G, F, env, out, I, hm, q⟩ := q
  unfold sSeq at hm
  cases h : m env with
  | none => rw [h] at hm; cases hm
  | some o1 =>
    rw [h] at hm
    refine ⟨G, F, env, o1, I, h, ?_⟩
    cases o1 with
    | nx e1 =>
      dsimp only at hm ⊢
      intro σ' F' H' S J
      refine ⟨G, F', e1, out, J, hm, ?_⟩
      cases out with
      | nx e2 => exact fun σ2 F2 H2 S2 J2 => q σ2 F2 H2 (S.trans S2) J2
      | rt d e2 => exact fun v σ2 F2 H2 Fr S2 J2 r n hF => q v σ2 F2 H2 Fr (S.trans S2) J2 r n fun a ha => ⟨(hF a ha).1, S.nw (hF a ha).2⟩
      | bk e2 => exact fun σ2 F2 H2 S2 J2 => q σ2 F2 H2 (S.trans S2) J2
      | ct e2 => exact fun σ2 F2 H2 S2 J2 => q σ2 F2 H2 (S.trans S2) J2
    | rt d e1 => cases hm; exact q
    | bk e1 => cases hm; exact q
    | ct e1 => cases hm; exact q
theorem ss_one {st : Stmt} {m : B} (h1 : SD X ks ps rk st m) : SsD X ks ps rk [st] m := pss_one h1
theorem sd_pass : SD X ks ps rk (.Pass pos) sNx := PS.imp ps_pass fun D σ H q => by
  obtain ⟨G, F, env, out, I, hm, q⟩ := q
  cases hm
  exact q σ F H .refl I
theorem sd_break : SD X ks ps rk (.Break pos) sBk := PS.imp ps_break fun D σ H q => by
  obtain ⟨G, F, env, out, I, hm, q⟩ := q
  cases hm
  exact q σ F H .refl I
theorem sd_continue : SD X ks ps rk (.Continue pos) sCt := PS.imp ps_continue fun D σ H q => by
  obtain ⟨G, F, env, out, I, hm, q⟩ := q
  cases hm
  exact q σ F H .refl I
/-- never reached -/
theorem sd_no {st : Stmt} : SD X ks ps rk st sNo := ⟨fun pins s σ H D I q => by obtain ⟨G, F, env, out, I, hm, q⟩ := q; cases hm⟩
def sExpr {α : Type} (m : M α) : B := fun e => match m e with
  | some (_, e') => some (.nx e')
  | none => none
theorem sd_expr {m : M PyData} (h : ED X ks ps e m) (hs : swapsWith e none pos.line X.env = pure false := by rfl) : SD X ks ps rk (.Expr e pos) (sExpr m) := PS.imp (ps_expr h hs) fun D σ H q => by
  obtain ⟨G, F, env, out, I, hm, q⟩ := q
  unfold sExpr at hm
  split at hm
  · rename_i d e' h1
    cases hm
    exact ⟨G, F, env, d, e', I, h1, fun v F' H' S J r => q σ F' H' S J⟩
  · cases hm
def sRet (m : M PyData) : B := fun e => match m e with
  | some (d, e') => some (.rt d e')
  | none => none
theorem sd_retF {m : M PyData} (h : FD X ks ps rk e m) : SD X ks ps rk (.Return (some e) pos) (sRet m) := PS.imp (ps_ret h) fun D σ H q => by
  obtain ⟨G, F, env, out, I, hm, q⟩ := q
  unfold sRet at hm
  split at hm
  · rename_i d e' h1
    cases hm
    exact ⟨G, F, env, d, e', I, h1, fun v F' H' Fr S J r n hF => q v σ F' H' Fr S J r n hF⟩
  · cases hm
theorem sd_ret {m : M PyData} (h : ED X ks ps e m) : SD X ks ps .frz (.Return (some e) pos) (sRet m) := sd_retF (fd_frz h)
def sRetN : B := fun e => some (.rt .none e)
theorem sd_retN : SD X ks ps .frz (.Return none pos) sRetN := PS.imp ps_retN fun D σ H q => by
  obtain ⟨G, F, env, out, I, hm, q⟩ := q
  cases hm
  exact q _ σ F H [] .refl (by rw [noneG]; exact I) ⟨rfl, rep_non⟩ List.nodup_nil fun a ha => nomatch ha
def sIf (c : M Bool) (m n : B) : B := fun e => match c e with
  | some (true, e') => m e'
  | some (false, e') => n e'
  | none => none
theorem sd_if {m n : B} {t : M Bool} {sa sb : List Stmt} (hc : TD X ks ps c t) (ha : SsD X ks ps rk sa m) (hb : SsD X ks ps rk sb n) : SD X ks ps rk (.If c sa sb pos) (sIf t m n) := PS.imp (ps_if hc ha hb) fun D σ H q => by
  obtain ⟨G, F, env, out, I, hm, q⟩ := q
  have fin : ∀ {e1 : Ev} {F1 : List (List Addr)} {H1 : Hp} {k : B}, Stp F H F1 H1 → EI X.K ks ps G F1 σ H1 e1 → k e1 = some out → tS X.K ks ps rk k D σ H1 := fun {e1 F1 H1 k} S J hk => by
    refine ⟨G, F1, e1, out, J, hk, ?_⟩
    cases out with
    | nx e2 => exact fun σ2 F2 H2 S2 J2 => q σ2 F2 H2 (S.trans S2) J2
    | rt d e2 => exact fun v σ2 F2 H2 Fr S2 J2 r n hF => q v σ2 F2 H2 Fr (S.trans S2) J2 r n fun a ha => ⟨(hF a ha).1, S.nw (hF a ha).2⟩
    | bk e2 => exact fun σ2 F2 H2 S2 J2 => q σ2 F2 H2 (S.trans S2) J2
    | ct e2 => exact fun σ2 F2 H2 S2 J2 => q σ2 F2 H2 (S.trans S2) J2
  unfold sIf at hm
  split at hm
  · rename_i e' h1
    exact ⟨G, F, env, true, e', I, h1, fun F' H' S J => iteT (fin S J hm)⟩
  · rename_i e' h1
    exact ⟨G, F, env, false, e', I, h1, fun F' H' S J => iteF (fin S J hm)⟩
  · cases hm

/-! ### stores -/
/-- slot i is not owned: it takes any datum -/
theorem EI.set_frz {K : PySem.W.Frag} {G : Addr → Prop} {F : List (List Addr)} {σ : L2.St} {H : Hp} {env : Ev} (I : EI K ks ps G F σ H env) {i : Nat} (hk : ks[i]? = some .frz) (hp : ∀ p ∈ ps, p.1 ≠ i) {d : PyData} {v : V} (r : Rep K H (OO G F) d v) :
    EI K ks ps G F (σ.set i (some v)) H (env.set i (some d)) where
  lF := I.lF
  lE := by simpa using I.lE
  lS := by simpa using I.lS
  nd := I.nd
  tr := I.tr
  gt := I.gt
  sl := fun j d' kd h1 h2 => by
    have hi : i < ks.length := (List.getElem?_eq_some_iff.mp hk).1
    by_cases hj : j = i
    · subst hj
      rw [List.getElem?_set_self (by rw [I.lE]; exact hi)] at h1
      cases h1
      rw [hk] at h2; cases h2
      exact ⟨v, [], by rw [List.getElem?_set_self (by rw [I.lS]; exact hi)], I.fz _ hk, rfl, r⟩
    · rw [List.getElem?_set_ne (Ne.symm hj)] at h1
      obtain ⟨w, Fi, e1, e2, o⟩ := I.sl j d' kd h1 h2
      exact ⟨w, Fi, by rw [List.getElem?_set_ne (Ne.symm hj)]; exact e1, e2, o⟩
  pn := fun p hp' => by rw [List.getElem?_set_ne (Ne.symm (hp p hp'))]; exact I.pn p hp'
  fz := I.fz
/-- a target: what storing a datum does -/
abbrev St1 := PyData → Ev → Option Ev
def tG (K : PySem.W.Frag) (ks : List Kd) (ps : List (Nat × V)) (vs : List Nat) (m : St1) : TG := fun v σ H Q => ∃ G F env d env', EI K ks ps G F σ H env ∧ Rep K H (OO G F) d v ∧ m d env = some env' ∧ ∀ σ' F' H', wipe σ' vs = wipe σ vs → Stp F H F' H' → EI K ks ps G F' σ' H' env' → Q σ' H'
def tGs (K : PySem.W.Frag) (ks : List Kd) (ps : List (Nat × V)) (ws : List Nat) (m : List PyData → Ev → Option Ev) : TGs := fun vs σ H Q => ∃ G F env ds env', EI K ks ps G F σ H env ∧ RepA K H (OO G F) ds vs ∧ m ds env = some env' ∧ ∀ σ' F' H', wipe σ' ws = wipe σ ws → Stp F H F' H' → EI K ks ps G F' σ' H' env' → Q σ' H'
abbrev GD (X : Cx) (ks : List Kd) (ps : List (Nat × V)) (vs : List Nat) (tg : Expr) (m : St1) : Prop := PG X tg (tG X.K ks ps vs m)
abbrev GsD (X : Cx) (ks : List Kd) (ps : List (Nat × V)) (vs : List Nat) (ts : List Expr) (m : List PyData → Ev → Option Ev) : Prop := PGs X ts (tGs X.K ks ps vs m)
theorem PG.imp {tg : Expr} {t t' : TG} (h : PG X tg t) (w : ∀ v σ H Q, t' v σ H Q → t v σ H Q) : PG X tg t' := ⟨fun pins s σ H v u Q I r q => h.run pins s σ H v u Q I r (w v σ H Q q)⟩
theorem PGs.imp {ts : List Expr} {t t' : TGs} (h : PGs X ts t) (w : ∀ v σ H Q, t' v σ H Q → t v σ H Q) : PGs X ts t' := ⟨fun pins s σ H v u Q I r q => h.run pins s σ H v u Q I r (w v σ H Q q)⟩
def gNm (i : Nat) : St1 := fun d e => some (e.set i (some d))
def psOk (ps : List (Nat × V)) (i : Nat) : Bool := ps.all fun p => p.1 != i
theorem psOk_ne {i : Nat} (h : psOk ps i = true) : ∀ p ∈ ps, p.1 ≠ i := fun p hp e => by
  unfold psOk at h
  rw [List.all_eq_true] at h
  have := h p hp
  simp [e] at this
theorem wipe_set {σ : L2.St} {i : Nat} {o : Option V} : ∀ {vs : List Nat}, i ∈ vs → wipe (σ.set i o) vs = wipe σ vs
  | [], h => nomatch h
  | v :: vs, h => by
    unfold wipe
    by_cases hi : i ∈ vs
    · rw [wipe_set hi]
    · have hv : i = v := (List.mem_cons.mp h).resolve_right hi
      subst hv
      have out : ∀ (ws : List Nat) (τ : L2.St), i ∉ ws → wipe (τ.set i o) ws = (wipe τ ws).set i o := by
        intro ws
        induction ws with
        | nil => intro τ _; rfl
        | cons w ws ih =>
          intro τ hn
          unfold wipe
          rw [ih τ fun z => hn (List.mem_cons_of_mem _ z), List.set_comm _ _ (fun e => hn (by rw [e]; exact List.mem_cons_self))]
      rw [out vs σ hi, List.set_set]
theorem gd_name {vs : List Nat} {i : Nat} {x : Str} (hN : X.N.Nodup) (hi : X.N[i]? = some x) (hx : Loc X.env.scope x) (hk : ks[i]? = some .frz) (hp : psOk ps i = true) (hv : i ∈ vs)
    (hf : X.fn x = true ∨ X.env.scope.names.lookup x = some .local := by first | exact .inl rfl | exact .inr rfl | assumption) : GD X ks ps vs (.Name x pos) (gNm i) := PG.imp (pg_name hN hi hx hf) fun v σ H Q q => by
  obtain ⟨G, F, env, d, env', I, r, hm, q⟩ := q
  cases hm
  exact q _ F H (wipe_set hv) .refl (I.set_frz hk (psOk_ne hp) r)
def gNl : List PyData → Ev → Option Ev := fun ds e => match ds with
  | [] => some e
  | _ => none
def gCn (m : St1) (n : List PyData → Ev → Option Ev) : List PyData → Ev → Option Ev := fun ds e => match ds with
  | [] => none
  | d :: r => match m d e with
    | none => none
    | some e1 => n r e1
theorem gsd_nil {vs : List Nat} : GsD X ks ps vs [] gNl := PGs.imp pgs_nil fun v σ H Q q => by
  obtain ⟨G, F, env, ds, env', I, r, hm, q⟩ := q
  unfold gNl at hm
  split at hm
  · cases hm
    simp only [RepA] at r
    exact ⟨r, q σ F H rfl .refl I⟩
  · cases hm
theorem gsd_cons {vs : List Nat} {m : St1} {n : List PyData → Ev → Option Ev} (h1 : GD X ks ps vs e m) (h2 : GsD X ks ps vs es n)
    (hs : (assignEach (e :: es) X.env).map (·.2) = assign e X.env :: (assignEach es X.env).map (·.2) := by rfl) : GsD X ks ps vs (e :: es) (gCn m n) := PGs.imp (pgs_cons h1 h2 hs) fun v σ H Q q => by
  obtain ⟨G, F, env, ds, env', I, r, hm, q⟩ := q
  unfold gCn at hm
  split at hm
  · cases hm
  · rename_i d t
    split at hm
    · cases hm
    · rename_i e1 h1
      simp only [RepA] at r
      obtain ⟨x, xs, rfl, r1, r2⟩ := r
      exact ⟨x, xs, rfl, G, F, env, d, e1, I, r1, h1, fun σ1 F1 H1 w1 S1 I1 => ⟨G, F1, e1, t, env', I1, RepA.kp S1.kp r2, hm, fun σ2 F2 H2 w2 S2 I2 => q σ2 F2 H2 (w2.trans w1) (S1.trans S2) I2⟩⟩
def gTp (n : Nat) (m : List PyData → Ev → Option Ev) : St1 := fun d e => match d with
  | .tuple ds => if ds.length = n then m ds e else none
  | _ => none
theorem gd_tup {vs : List Nat} {k : Nat} {m : List PyData → Ev → Option Ev} {n : Nat} (hc : X.calm = true) (h : GsD X ks ps vs es m) (hn : (assignEach es X.env).length = n := by rfl) (hst : (assignEach es X.env).findIdx? (·.1) = none := by rfl) :
    GD X ks ps vs (.Tuple es k pos) (gTp n m) := PG.imp (pg_tup hc h hn hst) fun v σ H Q q => by
  obtain ⟨G, F, env, d, env', I, r, hm, q⟩ := q
  unfold gTp at hm
  split at hm
  · rename_i ds
    split at hm
    · rename_i hl
      simp only [Rep] at r
      obtain ⟨a, xs, rfl, t1, a1⟩ := r
      exact ⟨a, xs, rfl, t1, by rw [← a1.length]; exact hl, G, F, env, ds, env', I, a1, hm, q⟩
    · cases hm
  · cases hm
def sAsg (m : M PyData) (g : St1) : B := fun e => match m e with
  | none => none
  | some (d, e1) => match g d e1 with
    | none => none
    | some e2 => some (.nx e2)
theorem sAsg_some {m : M PyData} {g : St1} {e : Ev} {out : Out} (h : sAsg m g e = some out) : ∃ d e1 e2, m e = some (d, e1) ∧ g d e1 = some e2 ∧ out = .nx e2 := by
  unfold sAsg at h
  split at h
  · cases h
  · rename_i d e1 h1
    split at h
    · cases h
    · rename_i e2 h2
      cases h
      exact ⟨d, e1, e2, h1, h2, rfl⟩
/-- target = e, where nothing is swapped -/
theorem sd_asg {vs : List Nat} {tg : Expr} {m : M PyData} {g : St1} (he : ED X ks ps e m) (hg : GD X ks ps vs tg g) (hs : swapsWithSole [tg] e pos.line X.env = pure false := by rfl) (hw : swappedStores [tg] e X.env = pure none := by rfl)
    (h1 : (assignEach [tg] X.env).map (·.2) = [assign tg X.env] := by rfl) : SD X ks ps rk (.Assign [tg] e pos) (sAsg m g) := PS.imp (ps_asg he hg hs hw h1) fun D σ H q => by
  obtain ⟨G, F, env, out, I, hm, q⟩ := q
  obtain ⟨d, e1, e2, h1, h2, rfl⟩ := sAsg_some hm
  exact ⟨G, F, env, d, e1, I, h1, fun v F1 H1 S1 I1 r => ⟨G, F1, e1, d, e2, I1, r, h2, fun σ2 F2 H2 _ S2 I2 => q σ2 F2 H2 (S1.trans S2) I2⟩⟩
/-- name = e -/
theorem sd_set {i : Nat} {x : Str} {m : M PyData} (hN : X.N.Nodup) (hi : X.N[i]? = some x) (hx : Loc X.env.scope x) (hk : ks[i]? = some .frz) (hp : psOk ps i = true) (he : ED X ks ps e m) (hs : swapsWith e (some (.Name x pos')) pos.line X.env = pure false := by rfl)
    (hf : X.fn x = true ∨ X.env.scope.names.lookup x = some .local := by first | exact .inl rfl | exact .inr rfl | assumption) : SD X ks ps rk (.Assign [.Name x pos'] e pos) (sAsg m (gNm i)) := PS.imp (ps_set hN hi hx he hs hf) fun D σ H q => by
  obtain ⟨G, F, env, out, I, hm, q⟩ := q
  obtain ⟨d, e1, e2, h1, h2, rfl⟩ := sAsg_some hm
  cases h2
  exact ⟨G, F, env, d, e1, I, h1, fun v F1 H1 S1 I1 r => q _ F1 H1 S1 (I1.set_frz hk (psOk_ne hp) r)⟩
/-- a, b = e1, e2 with plain local names -/
def gL2 (i j : Nat) : List PyData → Ev → Option Ev := fun ds e => match ds with
  | [x, y] => some ((e.set i (some x)).set j (some y))
  | _ => none
def gL3 (i j l : Nat) : List PyData → Ev → Option Ev := fun ds e => match ds with
  | [x, y, z] => some (((e.set i (some x)).set j (some y)).set l (some z))
  | _ => none
def sPar (m : M (List Opd)) (g : List PyData → Ev → Option Ev) : B := fun e => match m e with
  | none => none
  | some (os, e1) => match allVal os with
    | none => none
    | some ds => match g ds e1 with
      | none => none
      | some e2 => some (.nx e2)
theorem sPar_some {m : M (List Opd)} {g : List PyData → Ev → Option Ev} {e : Ev} {out : Out} (h : sPar m g e = some out) : ∃ os e1 ds e2, m e = some (os, e1) ∧ allVal os = some ds ∧ g ds e1 = some e2 ∧ out = .nx e2 := by
  unfold sPar at h
  split at h
  · cases h
  · rename_i os e1 h1
    split at h
    · cases h
    · rename_i ds h2
      split at h
      · cases h
      · rename_i e2 h3
        cases h
        exact ⟨os, e1, ds, e2, h1, h2, h3, rfl⟩
theorem sd_par {i j : Nat} {x y : Str} {px py pt : Pos} {kt k2 pt2} {m : M (List Opd)} (hc : X.calm = true) (hN : X.N.Nodup) (hi : X.N[i]? = some x) (hj : X.N[j]? = some y) (hij : i ≠ j)
    (hx : X.env.scope.names.lookup x = some .local) (hy : X.env.scope.names.lookup y = some .local) (hki : ks[i]? = some .frz) (hkj : ks[j]? = some .frz) (hpi : psOk ps i = true) (hpj : psOk ps j = true) (ha : AoD X ks ps [a, b] m)
    (hw : swappedStores [.Tuple [.Name x px, .Name y py] kt pt] (.Tuple [a, b] k2 pt2) X.env = pure (some [x, y]))
    (hs : swapsWithSole [.Tuple [.Name x px, .Name y py] kt pt] (.Tuple [a, b] k2 pt2) pos.line X.env = pure false := by rfl) :
    SD X ks ps rk (.Assign [.Tuple [.Name x px, .Name y py] kt pt] (.Tuple [a, b] k2 pt2) pos) (sPar m (gL2 i j)) := PS.imp (ps_par hc hN hi hj hij hx hy ha hw hs) fun D σ H q => by
  obtain ⟨G, F, env, out, I, hm, q⟩ := q
  obtain ⟨os, e1, ds, e2, h1, h2, h3, rfl⟩ := sPar_some hm
  refine ⟨G, F, env, os, e1, I, h1, fun vs F1 H1 S1 I1 r => ?_⟩
  have ra := HoldsA.vals r h2
  unfold gL2 at h3
  split at h3
  · cases h3
    obtain ⟨v, w, rfl, r1, r2⟩ := repA2 ra
    exact ⟨v, w, rfl, q _ F1 H1 S1 ((I1.set_frz hki (psOk_ne hpi) r1).set_frz hkj (psOk_ne hpj) r2)⟩
  · cases h3
theorem repA3 {K : PySem.W.Frag} {H : Hp} {O : Addr → Prop} {d e f : PyData} {xs : List V} (h : RepA K H O [d, e, f] xs) : ∃ x y z, xs = [x, y, z] ∧ Rep K H O d x ∧ Rep K H O e y ∧ Rep K H O f z := by
  simp only [RepA] at h
  obtain ⟨x, r, rfl, h1, y, r2, rfl, h2, z, r3, rfl, h3, rfl⟩ := h
  exact ⟨x, y, z, rfl, h1, h2, h3⟩
theorem sd_par3 {i j l : Nat} {x y z : Str} {px py pz pt : Pos} {kt k2 pt2} {m : M (List Opd)} (hc : X.calm = true) (hN : X.N.Nodup) (hi : X.N[i]? = some x) (hj : X.N[j]? = some y) (hl : X.N[l]? = some z) (hij : i ≠ j) (hil : i ≠ l) (hjl : j ≠ l)
    (hx : X.env.scope.names.lookup x = some .local) (hy : X.env.scope.names.lookup y = some .local) (hz : X.env.scope.names.lookup z = some .local) (hki : ks[i]? = some .frz) (hkj : ks[j]? = some .frz) (hkl : ks[l]? = some .frz)
    (hpi : psOk ps i = true) (hpj : psOk ps j = true) (hpl : psOk ps l = true) (ha : AoD X ks ps [a, b, c] m)
    (hw : swappedStores [.Tuple [.Name x px, .Name y py, .Name z pz] kt pt] (.Tuple [a, b, c] k2 pt2) X.env = pure (some [x, y, z]))
    (hs : swapsWithSole [.Tuple [.Name x px, .Name y py, .Name z pz] kt pt] (.Tuple [a, b, c] k2 pt2) pos.line X.env = pure false := by rfl) :
    SD X ks ps rk (.Assign [.Tuple [.Name x px, .Name y py, .Name z pz] kt pt] (.Tuple [a, b, c] k2 pt2) pos) (sPar m (gL3 i j l)) := PS.imp (ps_par3 hc hN hi hj hl hij hil hjl hx hy hz ha hw hs) fun D σ H q => by
  obtain ⟨G, F, env, out, I, hm, q⟩ := q
  obtain ⟨os, e1, ds, e2, h1, h2, h3, rfl⟩ := sPar_some hm
  refine ⟨G, F, env, os, e1, I, h1, fun vs F1 H1 S1 I1 r => ?_⟩
  have ra := HoldsA.vals r h2
  unfold gL3 at h3
  split at h3
  · cases h3
    obtain ⟨u, v, w, rfl, r1, r2, r3⟩ := repA3 ra
    exact ⟨u, v, w, rfl, q _ F1 H1 S1 (((I1.set_frz hki (psOk_ne hpi) r1).set_frz hkj (psOk_ne hpj) r2).set_frz hkl (psOk_ne hpl) r3)⟩
  · cases h3
/-- name op= e -/
def sAug (i : Nat) (g : PyData → PyData → Option PyData) (m : M PyData) : B := fun e => match e[i]? with
  | some (some x) => match m e with
    | none => none
    | some (y, e1) => match g x y with
      | none => none
      | some z => some (.nx (e1.set i (some z)))
  | _ => none
theorem sd_aug {i : Nat} {x : Str} {op : Operator} {g : PyData → PyData → Option PyData} {m : M PyData} (hN : X.N.Nodup) (hi : X.N[i]? = some x) (hx : Loc X.env.scope x) (hk : ks[i]? = some .frz) (hp : psOk ps i = true) (ho : Op2 X (inplaceOp op) g) (he : ED X ks ps e m)
    (hf : X.fn x = true ∨ X.env.scope.names.lookup x = some .local := by first | exact .inl rfl | exact .inr rfl | assumption) : SD X ks ps rk (.AugAssign (.Name x pos') op e pos) (sAug i g m) :=
  PS.imp (ps_aug hN hi hx he (fun pins s σ H x y v u Q I r1 r2 h => ho pins s σ H x y v u Q I r1 r2 h) hf) fun D σ H q => by
    obtain ⟨G, F, env, out, I, hm, q⟩ := q
    unfold sAug at hm
    split at hm
    · rename_i dx hd
      split at hm
      · cases hm
      · rename_i y e1 h1
        split at hm
        · cases hm
        · rename_i z hz
          cases hm
          obtain ⟨v, hv, rv⟩ := I.at_frz hd hk
          refine ⟨v, hv, G, F, env, y, e1, I, h1, fun w F1 H1 S1 I1 r1 => ⟨OO G F1, dx, y, z, fun p hp => OO_new I1 hp, Rep.kp S1.kp rv, r1, hz, fun u H2 s2 r2 => ?_⟩⟩
          exact q _ F1 H2 (S1.trans (.same s2)) ((I1.same s2).set_frz hk (psOk_ne hp) r2)
    · cases hm

/-! ### for -/
/-- the loop over the items -/
def loopB (g : St1) (body : B) : List PyData → Ev → Option Out
  | [], e => some (.nx e)
  | d :: r, e => match g d e with
    | none => none
    | some e1 => match body e1 with
      | some (.nx e2) => loopB g body r e2
      | some (.ct e2) => loopB g body r e2
      | some (.bk e2) => some (.nx e2)
      | some (.rt x e2) => some (.rt x e2)
      | none => none
/-- what a for walks: the items -/
def tI (K : PySem.W.Frag) (ks : List Kd) (ps : List (Nat × V)) (m : M (List PyData)) : TI := fun σ H R => ∃ G F env ds env', EI K ks ps G F σ H env ∧ m env = some (ds, env') ∧
  ∀ J F' H' (Gd : Hp → Prop) (Y : Nat → Hp → V → Hp → Prop), Stp F H F' H' → EI K ks ps G F' σ H' env' → Walk J ds.length Gd Y → (∀ F2 H2, Stp F' H' F2 H2 → Gd H2) →
    (∀ (G2 : Addr → Prop) i F2 H2 x H3 d, ds[i]? = some d → (∀ a, G2 a → G a ∨ H' a = none) → Stp F' H' F2 H2 → (∀ a, OO G2 F2 a → H2 a ≠ none) → Y i H2 x H3 → Same H2 H3 ∧ Rep K H3 (OO G2 F2) d x) → R J H'
/-- .. where more is kept from being held -/
theorem Stp.kp2 {G G2 : Addr → Prop} {F F' : List (List Addr)} {H H' : Hp} (s : Stp F H F' H') (h : ∀ a, G2 a → G a ∨ a ∈ F.flatten ∨ H a = none) : Kp (OO G F) H (OO G2 F') H' where
  keep := fun a o e n => ⟨s.keep a o e fun m => n (.inr m), fun z => by
    rcases z with z | z
    · rcases h a z with q | q | q
      · exact n (.inl q)
      · exact n (.inr q)
      · rw [q] at e; cases e
    · rcases s.new a z with q | q
      · exact n (.inr q)
      · rw [q] at e; cases e⟩
  tup := s.tup
  frz := s.frz
theorem EI.oo {K : PySem.W.Frag} {G : Addr → Prop} {F : List (List Addr)} {σ : L2.St} {H : Hp} {env : Ev} (I : EI K ks ps G F σ H env) : ∀ a, OO G F a → H a ≠ none := fun a z => by
  rcases z with z | z
  · exact I.gt a z
  · exact (I.tr a z).1
abbrev ID (X : Cx) (ks : List Kd) (ps : List (Nat × V)) (tg e : Expr) (m : M (List PyData)) : Prop := PI X tg e (tI X.K ks ps m)
theorem PI.imp {tg : Expr} {t t' : TI} (h : PI X tg e t) (w : ∀ σ H R, t' σ H R → t σ H R) : PI X tg e t' := ⟨fun pins s σ H R I q => h.run pins s σ H R I (w σ H R q)⟩
def sFor (m : M (List PyData)) (g : St1) (body : B) : B := fun e => match m e with
  | none => none
  | some (ds, e1) => loopB g body ds e1
theorem sd_for {vs : List Nat} {tg it : Expr} {body : List Stmt} {m : M (List PyData)} {g : St1} {mb : B} (hp : PassesOwn (model X.prog X.w) X.A X.env X.xe) (hc : X.calm = true) (hi : ID X ks ps tg it m) (hg : GD X ks ps vs tg g) (hb : SsD X ks ps rk body mb)
    (hs : ∀ x, foldedSetIterable it X.env x = pure x := by intro _; rfl) : SD X ks ps rk (.For tg it body [] pos) (sFor m g mb) := PS.imp (ps_for hp hc hi hg hb hs) fun D σ H q => by
  obtain ⟨G, F, env, out, I, hm, q⟩ := q
  unfold sFor at hm
  split at hm
  · cases hm
  · rename_i ds e1 h1
    refine ⟨G, F, env, ds, e1, I, h1, fun J F1 H1 Gd Y S1 I1 W hG hY => ?_⟩
    refine for_it W (fun i σ' H' => ∃ F2 e2, Stp F1 H1 F2 H' ∧ EI X.K ks ps G F2 σ' H' e2 ∧ loopB g mb (ds.drop i) e2 = some out) ⟨F1, e1, .refl, I1, by simpa using hm⟩ (fun i σ' H' hi' ⟨F2, e2, S2, I2, _⟩ => hG F2 H' S2) (fun i x σ' H2 H3 hi' ⟨F2, e2, S2, I2, hl⟩ y => ?_) (fun σ' H' ⟨F2, e2, S2, I2, hl⟩ => ?_)
    · have hd : ds.drop i = ds[i] :: ds.drop (i + 1) := List.drop_eq_getElem_cons hi'
      obtain ⟨sm, rx⟩ := hY G i F2 H2 x H3 _ (List.getElem?_eq_getElem hi') (fun a h => .inl h) S2 I2.oo y
      rw [hd] at hl
      unfold loopB at hl
      split at hl
      · cases hl
      · rename_i e3 h3
        refine ⟨G, F2, e2, ds[i], e3, I2.same sm, rx, h3, fun σ4 F4 H4 _ S4 I4 => ?_⟩
        have S14 := (S2.trans (.same sm)).trans S4
        split at hl
        · rename_i e5 h5
          exact ⟨G, F4, e3, _, I4, h5, fun σ5 F5 H5 S5 I5 => ⟨F5, e5, S14.trans S5, I5, hl⟩⟩
        · rename_i e5 h5
          exact ⟨G, F4, e3, _, I4, h5, fun σ5 F5 H5 S5 I5 => ⟨F5, e5, S14.trans S5, I5, hl⟩⟩
        · rename_i e5 h5
          cases hl
          exact ⟨G, F4, e3, _, I4, h5, fun σ5 F5 H5 S5 I5 => q σ5 F5 H5 ((S1.trans S14).trans S5) I5⟩
        · rename_i z e5 h5
          cases hl
          exact ⟨G, F4, e3, _, I4, h5, fun v σ5 F5 H5 Fr S5 I5 r5 n hF => q v σ5 F5 H5 Fr ((S1.trans S14).trans S5) I5 r5 n fun a ha => ⟨(hF a ha).1, (S1.trans S14).nw (hF a ha).2⟩⟩
        · cases hl
    · rw [List.drop_length] at hl
      cases hl
      exact q σ' F2 H' (S1.trans S2) I2
/-- over a list, a tuple -/
def mIt (m : M PyData) : M (List PyData) := bnd m fun d => lft (itsOf d)
/-- what is walked is a list or a tuple -/
theorem pi_seq {tg l : Expr} {tl : TE} (hl : PE X l tl) : PI X tg l (fun σ H R => tl σ H fun x H1 => (∃ a, x = .ref a ∧ (∃ xs, SqL X.K H1 a xs) ∧ R (Itl X.K a) H1) ∨ (∃ a, x = .ref a ∧ (∃ xs, SqT X.K H1 a xs) ∧ R (Itt X.K a) H1)) := by
  constructor
  intro pins s σ H R I h
  refine thn (hl.run pins s σ H _ I h) ?_
  rintro v s1 ⟨x, H1, I1, r1, q1⟩
  have own : ∀ b ∈ [s1.heap.objs.size], FpOk X pins H1 b := fun b hb => by
    rw [List.mem_singleton] at hb
    rw [hb]
    exact I1.fpOk (Nat.le_refl _) I1.fresh
  rcases q1 with ⟨a, rfl, ⟨xs, hq⟩, q⟩ | ⟨a, rfl, ⟨xs, hq⟩, q⟩
  · cases r1
    obtain ⟨its, rv, p, hz⟩ := I1.list hq
    exact wpAny_pyIter_list p.isList ⟨s1.heap.objs.size, [s1.heap.objs.size], _, _, H1, rfl, I1.kept (t' := s1.toks) fun b o e => Heap.get?_push_of_some _ e, turn_list a _, ⟨_, Heap.get?_push_size _ rfl, rfl, rfl⟩, own, q⟩
  · cases r1
    obtain ⟨its, rv, p, hz⟩ := I1.tuple hq
    exact wpAny_pyIter_tuple (show s1.heap.IsTuple a its.toArray from p) ⟨s1.heap.objs.size, [s1.heap.objs.size], _, _, H1, rfl, I1.kept (t' := s1.toks) fun b o e => Heap.get?_push_of_some _ e, turn_tuple a _, ⟨_, Heap.get?_push_size _ rfl, rfl, rfl⟩, own, q⟩
theorem id_seq {tg : Expr} {m : M PyData} (h : ED X ks ps e m) : ID X ks ps tg e (mIt m) := PI.imp (pi_seq h) fun σ H R q => by
  obtain ⟨G, F, env, ds, env', I, hm, q⟩ := q
  obtain ⟨d, e1, h1, h2⟩ := bnd_some hm
  obtain ⟨h2, rfl⟩ := lft_some h2
  refine ⟨G, F, env, _, _, I, h1, fun v F' H' S J r => ?_⟩
  unfold itsOf at h2
  split at h2
  · cases h2
    simp only [Rep] at r
    obtain ⟨a, xs, rfl, t1, a1⟩ := r
    refine .inl ⟨a, rfl, ⟨xs, t1.sq⟩, q _ F' H' _ _ S J (by rw [a1.length]; exact walk_list (xs := xs)) (fun F2 H2 S2 => (t1.kp (S2.kp (G := G))).sq) (fun G2 i F2 H2 x H3 d hd hg S2 _ y => ?_)⟩
    obtain ⟨rfl, hx⟩ := y
    obtain ⟨x', e', r'⟩ := a1.get hd
    rw [hx] at e'; cases e'
    exact ⟨.refl _, Rep.kp (S2.kp2 fun a z => (hg a z).imp id .inr) r'⟩
  · cases h2
    simp only [Rep] at r
    obtain ⟨a, xs, rfl, t1, a1⟩ := r
    refine .inr ⟨a, rfl, ⟨xs, t1⟩, q _ F' H' _ _ S J (by rw [a1.length]; exact walk_tup (xs := xs)) (fun F2 H2 S2 => SqT.kp (S2.kp (G := G)) t1) (fun G2 i F2 H2 x H3 d hd hg S2 _ y => ?_)⟩
    obtain ⟨rfl, hx⟩ := y
    obtain ⟨x', e', r'⟩ := a1.get hd
    rw [hx] at e'; cases e'
    exact ⟨.refl _, Rep.kp (S2.kp2 fun a z => (hg a z).imp id .inr) r'⟩
  · cases h2
/-- ranges -/
def rngL (lo : Int) (n : Nat) : List PyData := (List.range n).map fun (k : Nat) => PyData.int (lo + (k : Int))
def rng62 (i : Int) : Bool := decide (-(2 ^ 62) ≤ i) && decide (i < 2 ^ 62)
def rg1 : List PyData → Option (List PyData)
  | [.int j] => if rng62 j then some (rngL 0 j.toNat) else none
  | _ => none
def rg2 : List PyData → Option (List PyData)
  | [.int i, .int j] => if rng62 i && rng62 j then some (rngL i (j - i).toNat) else none
  | _ => none
def mRng (g : List PyData → Option (List PyData)) (m : M (List Opd)) : M (List PyData) := bnd m fun os => lft (match allVal os with
  | none => none
  | some ds => g ds)
theorem rngL_get {lo : Int} {n i : Nat} {d : PyData} (h : (rngL lo n)[i]? = some d) : d = .int (lo + (i : Int)) := by
  unfold rngL at h
  rw [List.getElem?_map] at h
  by_cases hi : i < n
  · rw [List.getElem?_range hi] at h
    cases h; rfl
  · rw [List.getElem?_eq_none (by simp; omega)] at h
    cases h
theorem id_rng {K : PySem.W.Frag} {G : Addr → Prop} {F : List (List Addr)} {σ : L2.St} {H : Hp} {env : Ev} {R : It → Hp → Prop} {lo : Int} {n : Nat} {F' : List (List Addr)} {H' : Hp}
    (q : ∀ J F' H' (Gd : Hp → Prop) (Y : Nat → Hp → V → Hp → Prop), Stp F H F' H' → EI K ks ps G F' σ H' env → Walk J (rngL lo n).length Gd Y → (∀ F2 H2, Stp F' H' F2 H2 → Gd H2) →
      (∀ (G2 : Addr → Prop) i F2 H2 x H3 d, (rngL lo n)[i]? = some d → (∀ a, G2 a → G a ∨ H' a = none) → Stp F' H' F2 H2 → (∀ a, OO G2 F2 a → H2 a ≠ none) → Y i H2 x H3 → Same H2 H3 ∧ Rep K H3 (OO G2 F2) d x) → R J H')
    (S : Stp F H F' H') (J : EI K ks ps G F' σ H' env) : R (Itr lo n) H' := by
  refine q _ F' H' _ _ S J (by rw [show (rngL lo n).length = n by simp [rngL]]; exact walk_range) (fun _ _ _ => trivial) (fun G2 i F2 H2 x H3 d hd _ S2 _ y => ?_)
  obtain ⟨rfl, rfl⟩ := y
  rw [rngL_get hd]
  exact ⟨.refl _, rep_int⟩
theorem id_range1 {tg : Expr} {p : Pos} {m : M (List Opd)} (hg : Gl X "range") (hm : X.mg "range" = none) (ha : AoD X ks ps [a] m) (hs : starEach [a] X.env = [(false, eval a X.env)] := by rfl) : ID X ks ps tg (.Call (.Name "range" p) [a] [] pos) (mRng rg1 m) :=
  PI.imp (pi_range1 hg hm ha hs) fun σ H R q => by
    obtain ⟨G, F, env, ds, env', I, hm, q⟩ := q
    obtain ⟨os, e1, h1, h2⟩ := bnd_some hm
    obtain ⟨h2, rfl⟩ := lft_some h2
    split at h2
    · cases h2
    · rename_i dv hv
      refine ⟨G, F, env, os, _, I, h1, fun vs F' H' S J r => ?_⟩
      have ra := HoldsA.vals r hv
      unfold rg1 at h2
      split at h2
      · split at h2
        · cases h2
          rename_i hb
          unfold rng62 at hb
          simp only [Bool.and_eq_true, decide_eq_true_eq] at hb
          obtain ⟨x, rfl, r1⟩ := repA1 ra
          simp only [Rep] at r1
          subst r1
          exact ⟨_, rfl, hb.1, hb.2, id_rng q S J⟩
        · cases h2
      · cases h2
theorem id_range2 {tg : Expr} {p : Pos} {m : M (List Opd)} (hg : Gl X "range") (hm : X.mg "range" = none) (ha : AoD X ks ps [a, b] m) (hs : starEach [a, b] X.env = [(false, eval a X.env), (false, eval b X.env)] := by rfl)
    (hs2 : starEach [b] X.env = [(false, eval b X.env)] := by rfl) : ID X ks ps tg (.Call (.Name "range" p) [a, b] [] pos) (mRng rg2 m) :=
  PI.imp (pi_range2 hg hm ha hs hs2) fun σ H R q => by
    obtain ⟨G, F, env, ds, env', I, hm, q⟩ := q
    obtain ⟨os, e1, h1, h2⟩ := bnd_some hm
    obtain ⟨h2, rfl⟩ := lft_some h2
    split at h2
    · cases h2
    · rename_i dv hv
      refine ⟨G, F, env, os, _, I, h1, fun vs F' H' S J r => ?_⟩
      have ra := HoldsA.vals r hv
      unfold rg2 at h2
      split at h2
      · split at h2
        · cases h2
          rename_i hb
          unfold rng62 at hb
          simp only [Bool.and_eq_true, decide_eq_true_eq] at hb
          obtain ⟨x, y, rfl, r1, r2⟩ := repA2 ra
          simp only [Rep] at r1 r2
          subst r1; subst r2
          exact ⟨_, _, rfl, ⟨hb.1.1, hb.1.2, hb.2.1, hb.2.2⟩, id_rng q S J⟩
        · cases h2
      · cases h2

/-! ### while: so many turns at most -/
def whileB (c : M Bool) (body : B) : Nat → Ev → Option Out
  | 0, _ => none
  | n + 1, e => match c e with
    | none => none
    | some (false, e1) => some (.nx e1)
    | some (true, e1) => match body e1 with
      | some (.nx e2) => whileB c body n e2
      | some (.ct e2) => whileB c body n e2
      | some (.bk e2) => some (.nx e2)
      | some (.rt x e2) => some (.rt x e2)
      | none => none
def sWhile (fuel : Ev → Nat) (c : M Bool) (body : B) : B := fun e => whileB c body (fuel e) e
theorem sd_while {t : M Bool} {mb : B} {body : List Stmt} {fuel : Ev → Nat} (hp : PassesOwn (model X.prog X.w) X.A X.env X.xe) (hc : TD X ks ps c t) (hb : SsD X ks ps rk body mb) : SD X ks ps rk (.While c body [] pos) (sWhile fuel t mb) := PS.imp (ps_while hp hc hb) fun D σ H q => by
  obtain ⟨G, F, env, out, I, hm, q⟩ := q
  refine ⟨fun n σ' H' => ∃ F2 e2, Stp F H F2 H' ∧ EI X.K ks ps G F2 σ' H' e2 ∧ whileB t mb n e2 = some out, ⟨_, F, env, .refl, I, hm⟩, fun n σ' H' ⟨F2, e2, S2, I2, hl⟩ => ?_⟩
  cases n with
  | zero => cases hl
  | succ n =>
    unfold whileB at hl
    split at hl
    · cases hl
    · rename_i e3 h3
      cases hl
      exact ⟨G, F2, e2, false, e3, I2, h3, fun F3 H3 S3 I3 => iteF (q σ' F3 H3 (S2.trans S3) I3)⟩
    · rename_i e3 h3
      refine ⟨G, F2, e2, true, e3, I2, h3, fun F3 H3 S3 I3 => iteT ⟨fun σ4 H4 => ∃ F4 e4, Stp F H F4 H4 ∧ EI X.K ks ps G F4 σ4 H4 e4 ∧ whileB t mb n e4 = some out, fun σ4 H4 ⟨F4, e4, S4, I4, h4⟩ => ⟨n, Nat.lt_succ_self n, F4, e4, S4, I4, h4⟩, ?_⟩⟩
      have S23 := S2.trans S3
      split at hl
      · rename_i e5 h5
        exact ⟨G, F3, e3, _, I3, h5, fun σ5 F5 H5 S5 I5 => ⟨F5, e5, S23.trans S5, I5, hl⟩⟩
      · rename_i e5 h5
        exact ⟨G, F3, e3, _, I3, h5, fun σ5 F5 H5 S5 I5 => ⟨F5, e5, S23.trans S5, I5, hl⟩⟩
      · rename_i e5 h5
        cases hl
        exact ⟨G, F3, e3, _, I3, h5, fun σ5 F5 H5 S5 I5 => q σ5 F5 H5 (S23.trans S5) I5⟩
      · rename_i z e5 h5
        cases hl
        exact ⟨G, F3, e3, _, I3, h5, fun v σ5 F5 H5 Fr S5 I5 r5 n hF => q v σ5 F5 H5 Fr (S23.trans S5) I5 r5 n fun a ha => ⟨(hF a ha).1, S23.nw (hF a ha).2⟩⟩
      · cases hl
end
end DL

/-! DLE: comprehensions. -/
namespace DL
open PySem PySem.Spec PyProof.Rows L2
section
variable {rk : Kd} {X : Cx} {ks : List Kd} {ps : List (Nat × V)} {a b c e o i : Expr} {es : List Expr} {pos pos' : Pos}

def wipeE (e : Ev) : List Nat → Ev
  | [] => e
  | v :: vs => (wipeE e vs).set v none
def backE (e0 : Ev) (e : Ev) : List Nat → Ev
  | [] => e
  | v :: vs => (backE e0 e vs).set v (e0.getD v none)
theorem wipeE_len (e : Ev) : ∀ vs, (wipeE e vs).length = e.length
  | [] => rfl
  | v :: vs => by unfold wipeE; rw [List.length_set]; exact wipeE_len e vs
theorem backE_len (e0 e : Ev) : ∀ vs, (backE e0 e vs).length = e.length
  | [] => rfl
  | v :: vs => by unfold backE; rw [List.length_set]; exact backE_len e0 e vs
theorem wipeE_some {e : Ev} {i : Nat} {d : PyData} : ∀ {vs : List Nat}, (wipeE e vs)[i]? = some (some d) → e[i]? = some (some d) ∧ i ∉ vs
  | [], h => ⟨h, fun z => nomatch z⟩
  | v :: vs, h => by
    unfold wipeE at h
    rw [List.getElem?_set] at h
    by_cases hv : v = i
    · subst hv
      simp only [if_pos] at h
      split at h
      · exact absurd (Option.some.inj h) (fun z => nomatch z)
      · cases h
    · rw [if_neg hv] at h
      obtain ⟨h1, h2⟩ := wipeE_some h
      exact ⟨h1, fun z => (List.mem_cons.mp z).elim (fun z => hv z.symm) h2⟩
theorem backE_some {e0 e : Ev} {i : Nat} {d : PyData} : ∀ {vs : List Nat}, (backE e0 e vs)[i]? = some (some d) → (i ∈ vs ∧ e0[i]? = some (some d)) ∨ (i ∉ vs ∧ e[i]? = some (some d))
  | [], h => .inr ⟨(fun z => nomatch z), h⟩
  | v :: vs, h => by
    unfold backE at h
    rw [List.getElem?_set] at h
    by_cases hv : v = i
    · subst hv
      simp only [if_pos] at h
      split at h
      · have hd : e0.getD v none = some d := Option.some.inj h
        refine .inl ⟨List.mem_cons_self, ?_⟩
        rw [List.getD_eq_getElem?_getD] at hd
        cases q : e0[v]? with
        | none => rw [q] at hd; cases hd
        | some x => rw [q] at hd; exact congrArg some hd
      · cases h
    · rw [if_neg hv] at h
      rcases backE_some h with ⟨h1, h2⟩ | ⟨h1, h2⟩
      · exact .inl ⟨List.mem_cons_of_mem _ h1, h2⟩
      · exact .inr ⟨fun z => (List.mem_cons.mp z).elim (fun z => hv z.symm) h1, h2⟩

/-- the elements of a comprehension, the names of its own wiped at each turn's end -/
def compL (g : St1) (t : M Bool) (m : M PyData) (vs : List Nat) : List PyData → Ev → Option (List PyData × Ev)
  | [], e => some ([], e)
  | d :: r, e => match g d e with
    | none => none
    | some e1 => match t e1 with
      | none => none
      | some (false, e2) => compL g t m vs r (wipeE e2 vs)
      | some (true, e2) => match m e2 with
        | none => none
        | some (y, e3) => match compL g t m vs r (wipeE e3 vs) with
          | none => none
          | some (ys, e4) => some (y :: ys, e4)
def mComp (it : M (List PyData)) (g : St1) (t : M Bool) (m : M PyData) (vs : List Nat) : M PyData := fun e => match it e with
  | none => none
  | some (ds, e1) => if ds.length ≤ 1000000 then match compL g t m vs ds (wipeE e1 vs) with
    | none => none
    | some (ys, e2) => some (.list ys, backE e1 e2 vs)
    else none
def mYes : M Bool := ret true
theorem EI.wiped {K : PySem.W.Frag} {G : Addr → Prop} {F : List (List Addr)} {σ : L2.St} {H : Hp} {env : Ev} {vs : List Nat} (I : EI K ks ps G F σ H env) (hp : ∀ i ∈ vs, psOk ps i = true) : EI K ks ps G F (wipe σ vs) H (wipeE env vs) where
  lF := I.lF
  lE := by rw [wipeE_len]; exact I.lE
  lS := by rw [wipe_length]; exact I.lS
  nd := I.nd
  tr := I.tr
  gt := I.gt
  sl := fun j d kd h1 h2 => by
    obtain ⟨h1, hn⟩ := wipeE_some h1
    obtain ⟨v, Fi, e1, e2, o⟩ := I.sl j d kd h1 h2
    exact ⟨v, Fi, by rw [wipe_out hn]; exact e1, e2, o⟩
  pn := fun p hp' => by
    have hn : p.1 ∉ vs := fun z => psOk_ne (hp _ z) p hp' rfl
    rw [wipe_out hn]
    exact I.pn p hp'
  fz := I.fz
theorem wipe_wipe (σ : L2.St) (vs : List Nat) : wipe (wipe σ vs) vs = wipe σ vs := by
  refine List.ext_getElem? fun i => ?_
  by_cases hi : i ∈ vs
  · have aux : ∀ (ws : List Nat) (τ : L2.St), i ∈ ws → (wipe τ ws)[i]? = if i < τ.length then some none else none := by
      intro ws
      induction ws with
      | nil => intro τ h; exact nomatch h
      | cons w ws ih =>
        intro τ h
        unfold wipe
        rw [List.getElem?_set]
        by_cases hw : w = i
        · subst hw; simp [wipe_length]
        · rw [if_neg hw]; exact ih τ ((List.mem_cons.mp h).resolve_left fun z => hw z.symm)
    rw [aux vs _ hi, aux vs _ hi, wipe_length]
  · rw [wipe_out hi]
theorem wipe_same {σ σ2 : L2.St} {vs : List Nat} (h : wipe σ2 vs = wipe σ vs) {i : Nat} (hi : i ∉ vs) : σ2[i]? = σ[i]? := by
  have := congrArg (fun l => l[i]?) h
  simp only [wipe_out hi] at this
  exact this
/-- another slot list that is the same but for wiped slots -/
theorem EI.wipe2 {K : PySem.W.Frag} {G : Addr → Prop} {F : List (List Addr)} {σ σ2 : L2.St} {H : Hp} {env : Ev} {vs : List Nat} (I : EI K ks ps G F σ2 H env) (h : wipe σ2 vs = wipe σ vs) (hp : ∀ i ∈ vs, psOk ps i = true) : EI K ks ps G F (wipe σ vs) H (wipeE env vs) := by
  have := I.wiped hp
  rw [h] at this
  exact this
theorem EI.moreG {K : PySem.W.Frag} {G G' : Addr → Prop} {F : List (List Addr)} {σ : L2.St} {H H' : Hp} {env : Ev} (I : EI K ks ps G F σ H env) (sm : Same H H') (h : ∀ a, G' a → G a ∨ H a = none) (h2 : ∀ a, G' a → H' a ≠ none) : EI K ks ps G' F σ H' env where
  lF := I.lF
  lE := I.lE
  lS := I.lS
  nd := I.nd
  tr := fun a ha => by
    obtain ⟨t1, t2⟩ := I.tr a ha
    exact ⟨(Stp.same (F := F) sm).dom a t1, fun z => (h a z).elim t2 t1⟩
  gt := h2
  sl := fun j d kd h1 h3 => by
    obtain ⟨v, Fi, e1, e2, o⟩ := I.sl j d kd h1 h3
    exact ⟨v, Fi, e1, e2, o.kp ((Stp.same (F := F) sm).kp2 fun a z => (h a z).imp id .inr) fun a _ ob e => sm a ob e⟩
  pn := I.pn
  fz := I.fz
theorem EI.lessG {K : PySem.W.Frag} {G G' : Addr → Prop} {F : List (List Addr)} {σ : L2.St} {H : Hp} {env : Ev} (J : EI K ks ps G' F σ H env) (hG : ∀ a, G a → G' a) : EI K ks ps G F σ H env where
  lF := J.lF
  lE := J.lE
  lS := J.lS
  nd := J.nd
  tr := fun a ha => ⟨(J.tr a ha).1, fun z => (J.tr a ha).2 (hG a z)⟩
  gt := fun a ha => J.gt a (hG a ha)
  sl := fun j d kd h1 h2 => by
    obtain ⟨v, Fi, e1, e2, o⟩ := J.sl j d kd h1 h2
    exact ⟨v, Fi, e1, e2, o.kp (Kp.less fun a z => z.elim (fun z => .inl (hG a z)) .inr) fun a _ ob e => e⟩
  pn := J.pn
  fz := J.fz
theorem EI.back {K : PySem.W.Frag} {G G' : Addr → Prop} {F F' : List (List Addr)} {σ : L2.St} {H H' : Hp} {e0 e : Ev} {vs : List Nat} (I : EI K ks ps G F σ H e0) (J : EI K ks ps G' F' (wipe σ vs) H' e) (S : Stp F H F' H') (hG : ∀ a, G' a → G a ∨ H a = none) (hk : ∀ i ∈ vs, ks[i]? = some .frz) (hp : ∀ i ∈ vs, psOk ps i = true) :
    EI K ks ps G' F' σ H' (backE e0 e vs) where
  lF := J.lF
  lE := by rw [backE_len]; exact J.lE
  lS := I.lS
  nd := J.nd
  tr := J.tr
  gt := J.gt
  sl := fun j d kd h1 h2 => by
    rcases backE_some h1 with ⟨hj, h1⟩ | ⟨hj, h1⟩
    · have := hk j hj
      rw [h2] at this
      cases this
      obtain ⟨v, e1, r⟩ := I.at_frz h1 h2
      exact ⟨v, [], e1, J.fz j h2, rfl, Rep.kp (S.kp2 fun a z => (hG a z).imp id .inr) r⟩
    · obtain ⟨v, Fi, e1, e2, o⟩ := J.sl j d kd h1 h2
      rw [wipe_out hj] at e1
      exact ⟨v, Fi, e1, e2, o⟩
  pn := I.pn
  fz := J.fz
theorem Stp.put {F F' : List (List Addr)} {H H' : Hp} {D : Addr} {o : HO} (s : Stp F H F' H') (h : H D = none) : Stp F H F' (upd H' D o) where
  keep := fun a u e n => by rw [upd_ne (ne_of_none e h)]; exact s.keep a u e n
  dom := fun a e => by
    by_cases ha : a = D
    · subst ha; exact absurd h e
    · rw [upd_ne ha]; exact s.dom a e
  tup := fun a xs e => by rw [upd_ne (ne_of_none e h)]; exact s.tup a xs e
  frz := fun a u v e => by rw [upd_ne (ne_of_none e h)]; exact s.frz a u v e
  new := s.new
def plainO : HO → Prop
  | .tup _ => False
  | .frz _ _ => False
  | _ => True
/-- an address that is kept from being held is written -/
theorem Kp.put {O : Addr → Prop} {H : Hp} {D : Addr} {u0 o : HO} (h : O D) (hD : H D = some u0) (hu0 : plainO u0 := by trivial) : Kp O H O (upd H D o) where
  keep := fun a u e n => by
    have ha : a ≠ D := fun z => n (by rw [z]; exact h)
    exact ⟨by rw [upd_ne ha]; exact e, n⟩
  tup := fun a ys e => by
    have ha : a ≠ D := fun z => by rw [z, hD] at e; cases e; exact hu0
    rw [upd_ne ha]; exact e
  frz := fun a u v e => by
    have ha : a ≠ D := fun z => by rw [z, hD] at e; cases e; exact hu0
    rw [upd_ne ha]; exact e
theorem EI.put {K : PySem.W.Frag} {G : Addr → Prop} {F : List (List Addr)} {σ : L2.St} {H : Hp} {env : Ev} {D : Addr} {u0 o : HO} (I : EI K ks ps G F σ H env) (h : G D) (hD : H D = some u0) (hu0 : plainO u0 := by trivial) : EI K ks ps G F σ (upd H D o) env where
  lF := I.lF
  lE := I.lE
  lS := I.lS
  nd := I.nd
  tr := fun a ha => by
    obtain ⟨t1, t2⟩ := I.tr a ha
    have hn : a ≠ D := fun z => t2 (by rw [z]; exact h)
    exact ⟨by rw [upd_ne hn]; exact t1, t2⟩
  gt := fun a ha => by
    by_cases hn : a = D
    · subst hn; rw [upd_same]; simp
    · rw [upd_ne hn]; exact I.gt a ha
  sl := fun j d kd h1 h2 => by
    obtain ⟨v, Fi, e1, e2, o'⟩ := I.sl j d kd h1 h2
    refine ⟨v, Fi, e1, e2, o'.kp (Kp.put (.inl h) hD hu0) fun a ha ob e => ?_⟩
    have hn : a ≠ D := fun z => by
      have hm : a ∈ F.flatten := List.mem_flatten.mpr ⟨Fi, List.mem_of_getElem? e2, ha⟩
      exact (I.tr a hm).2 (by rw [z]; exact h)
    rw [upd_ne hn]; exact e
  pn := I.pn
  fz := I.fz

section
variable {G : Addr → Prop} {F : List (List Addr)} {σ : L2.St} {H : Hp} {env e1 e2 : Ev} {mi : M (List PyData)} {g : St1} {t : M Bool} {m : M PyData} {vs : List Nat} {ds ys : List PyData} {Q : VK}
theorem comp_read (I : EI X.K ks ps G F σ H env) (h1 : mi env = some (ds, e1)) (hl : ds.length ≤ 1000000) (h2 : compL g t m vs ds (wipeE e1 vs) = some (ys, e2)) (hk : ∀ i ∈ vs, ks[i]? = some .frz) (hp : ∀ i ∈ vs, psOk ps i = true)
    (q : ∀ D xs F' H', Stp F H F' H' → EI X.K ks ps (fun a => G a ∨ a = D) F' σ H' (backE e1 e2 vs) → H D = none → H' D = some (.lst xs) → RepA X.K H' (OO (fun a => G a ∨ a = D) F') ys xs → ¬ OO G F' D → Q (.ref D) H') :
    tLc (tI X.K ks ps mi) (tG X.K ks ps vs g) (tT X.K ks ps t) (tD X.K ks ps m) vs σ H Q := by
  refine ⟨G, F, env, ds, e1, I, h1, fun J F1 H1 Gd Y S1 I1 W hG hY D hD => ?_⟩
  let G' : Addr → Prop := fun a => G a ∨ a = D
  have hG' : ∀ a, G' a → G a ∨ H1 a = none := fun a z => z.elim .inl fun z => .inr (by rw [z]; exact hD)
  have sm0 : Same H1 (upd H1 D (.lst [])) := same_upd hD
  have I0 : EI X.K ks ps G' F1 (wipe σ vs) (upd H1 D (.lst [])) (wipeE e1 vs) := (I1.wiped hp).moreG sm0 hG' fun a z => by
    rcases z with z | z
    · exact (Stp.same (F := F1) sm0).dom a (I1.gt a z)
    · rw [z, upd_same]; simp
  have line : ∀ n : Nat, n ≤ 1000000 → n < sizeLine := fun n hn => Nat.lt_of_le_of_lt hn (by rw [sizeLine_eq]; decide)
  refine lc_it W (fun i H2 => ∃ F2 e3 acc accd rest, Stp F1 H1 F2 H2 ∧ EI X.K ks ps G' F2 (wipe σ vs) H2 e3 ∧ H2 D = some (.lst acc) ∧ RepA X.K H2 (OO G' F2) accd acc ∧ compL g t m vs (ds.drop i) e3 = some (rest, e2) ∧ accd ++ rest = ys ∧ acc.length ≤ i)
    ⟨F1, wipeE e1 vs, [], [], ys, Stp.refl.put hD, I0, upd_same, .nil, by simpa using h2, rfl, Nat.le_refl _⟩ (fun i H2 hi ⟨F2, e3, acc, accd, rest, S2, _⟩ => hG F2 H2 S2) (fun i x H2 H3 hi ⟨F2, e3, acc, accd, rest, S2, I2, eD, ra, hc, ea, hn⟩ y => ?_) (fun H2 ⟨F2, e3, acc, accd, rest, S2, I2, eD, ra, hc, ea, hn⟩ => ?_)
  · have hd : ds.drop i = ds[i] :: ds.drop (i + 1) := List.drop_eq_getElem_cons hi
    obtain ⟨sm, rx⟩ := hY G' i F2 H2 x H3 _ (List.getElem?_eq_getElem hi) hG' S2 I2.oo y
    rw [hd] at hc
    unfold compL at hc
    split at hc
    · cases hc
    · rename_i e4 h4
      refine ⟨G', F2, e3, ds[i], e4, I2.same sm, rx, h4, fun σ4 F4 H4 w4 S4 I4 => ⟨?_, ?_⟩⟩
      · rw [w4]
        exact wipe_wipe σ vs
      have S24 : Stp F2 H2 F4 H4 := (Stp.same sm).trans S4
      have ndD : ∀ {F5 : List (List Addr)} {σ5 : L2.St} {H5 : Hp} {e5 : Ev}, EI X.K ks ps G' F5 σ5 H5 e5 → D ∉ F5.flatten := fun J z => (J.tr D z).2 (.inr rfl)
      have wσ : wipe σ4 vs = wipe σ vs := w4.trans (wipe_wipe σ vs)
      split at hc
      · cases hc
      · rename_i e5 h5
        refine ⟨G', F4, e4, false, e5, I4, h5, fun F5 H5 S5 I5 => iteF ?_⟩
        have S25 := S24.trans S5
        exact ⟨F5, wipeE e5 vs, acc, accd, rest, S2.trans S25, I5.wipe2 wσ hp, S25.keep D _ eD (ndD I2), RepA.kp S25.kp ra, hc, ea, by omega⟩
      · rename_i e5 h5
        split at hc
        · cases hc
        · rename_i z e6 h6
          split at hc
          · cases hc
          · rename_i zs e7 h7
            cases hc
            refine ⟨G', F4, e4, true, e5, I4, h5, fun F5 H5 S5 I5 => iteT ⟨G', F5, e5, z, e6, I5, h6, fun v F6 H6 S6 I6 r6 => ?_⟩⟩
            have S26 := (S24.trans S5).trans S6
            have eD6 : H6 D = some (.lst acc) := S26.keep D _ eD (ndD I2)
            have hGD : OO G' F6 D := .inl (.inr rfl)
            refine ⟨acc, eD6, line _ (by have := List.length_drop (i := i) (l := ds); omega), F6, wipeE e6 vs, acc ++ [v], accd ++ [z], zs, (S2.trans S26).put hD, (I6.wipe2 wσ hp).put (.inr rfl) eD6, upd_same, ?_, h7, by rw [List.append_assoc]; exact ea, by rw [List.length_append]; simp only [List.length_cons, List.length_nil]; omega⟩
            exact (RepA.kp (Kp.put hGD eD6) (RepA.kp S26.kp ra)).append (.cons (Rep.kp (Kp.put hGD eD6) r6) .nil)
  · rw [List.drop_length] at hc
    unfold compL at hc
    cases hc
    rw [List.append_nil] at ea
    subst ea
    have hDn : H D = none := by
      cases z : H D with
      | none => rfl
      | some o => exact absurd hD (S1.dom D (by rw [z]; simp))
    exact q D acc F2 H2 (S1.trans S2) (I1.back I2 S2 hG' hk hp) hDn eD ra fun z => z.elim (fun z => I1.gt D z hD) fun z => (I2.tr D z).2 (.inr rfl)
end
theorem mComp_some {it : M (List PyData)} {g : St1} {t : M Bool} {m : M PyData} {vs : List Nat} {e e' : Ev} {d : PyData} (h : mComp it g t m vs e = some (d, e')) : ∃ ds e1 ys e2, it e = some (ds, e1) ∧ ds.length ≤ 1000000 ∧ compL g t m vs ds (wipeE e1 vs) = some (ys, e2) ∧ d = .list ys ∧ e' = backE e1 e2 vs := by
  unfold mComp at h
  split at h
  · cases h
  · rename_i ds e1 h1
    split at h
    · rename_i hl
      split at h
      · cases h
      · rename_i ys e2 h2
        cases h
        exact ⟨ds, e1, ys, e2, h1, hl, h2, rfl, rfl⟩
    · cases h
def frzAll (ks : List Kd) (ps : List (Nat × V)) (vs : List Nat) : Bool := vs.all fun i => decide (ks[i]? = some .frz) && psOk ps i
theorem frzAll_k {vs : List Nat} (h : frzAll ks ps vs = true) : (∀ i ∈ vs, ks[i]? = some .frz) ∧ ∀ i ∈ vs, psOk ps i = true := by
  unfold frzAll at h
  rw [List.all_eq_true] at h
  exact ⟨fun i hi => by have := h i hi; rw [Bool.and_eq_true, decide_eq_true_eq] at this; exact this.1, fun i hi => by have := h i hi; rw [Bool.and_eq_true] at this; exact this.2⟩
theorem ed_comp {elt tg it : Expr} {ifs : List Expr} {scope : Scope} {own : List (Str × Nat)} {mi : M (List PyData)} {g : St1} {t : M Bool} {m : M PyData} (hc : X.calm = true) (hN : X.N.Nodup) (hi : ID X ks ps tg it mi) (ok : BlkOk X.N X.env.scope scope own)
    (hg : ∀ (s : Shared) (H : Hp) (C : Addr) (cl : List (Str × Addr)) (fp : List Addr), GD (X.blk s H scope (compEnvC scope cl C X.env) fp) ks ps (own.map (·.2)) tg g)
    (ht : ∀ (s : Shared) (H : Hp) (C : Addr) (cl : List (Str × Addr)) (fp : List Addr), PTs (X.blk s H scope (compEnvC scope cl C X.env) fp) ifs (tT X.K ks ps t))
    (he : ∀ (s : Shared) (H : Hp) (C : Addr) (cl : List (Str × Addr)) (fp : List Addr), ED (X.blk s H scope (compEnvC scope cl C X.env) fp) ks ps elt m)
    (hp : frzAll ks ps (own.map (·.2)) = true)
    (hs : ∀ x, foldedSetIterable it X.env x = pure x := by intro _; rfl) : ED X ks ps (.ListComp elt [⟨tg, it, ifs, 0⟩] scope pos) (mComp mi g t m (own.map (·.2))) :=
  PE.imp (pe_lc hc hN hi ok hg ht he hs) fun σ H Q q => by
    obtain ⟨G, F, env, d, env', I, hm, q⟩ := q
    obtain ⟨ds, e1, ys, e2, h1, hl, h2, rfl, rfl⟩ := mComp_some hm
    obtain ⟨hk, hp⟩ := frzAll_k hp
    refine comp_read I h1 hl h2 hk hp fun D xs F' H' S J hD eD ra nO => q _ F' H' S (J.lessG fun _ z => .inl z) ?_
    simp only [Rep]
    exact ⟨D, xs, rfl, LstAt.rd (.inl eD) nO, RepA.kp (Kp.less fun a z => z.elim (fun z => .inl (.inl z)) .inr) ra⟩
theorem ptd_nil : PTs X [] (tT X.K ks ps mYes) := ⟨fun pins s σ H Q I q => by
  obtain ⟨G, F, env, b, env', J, hm, q⟩ := q
  cases hm
  exact pts_nil.run pins s σ H Q I (q F H .refl J)⟩
theorem ptd_one {t : M Bool} (h : TD X ks ps c t) : PTs X [c] (tT X.K ks ps t) := pts_one h
/-- name = [..] where the name is a local and both stand on one line -/
theorem sd_setLc {j : Nat} {y : Str} {py spos : Pos} {elt tg it : Expr} {ifs : List Expr} {scope : Scope} {own : List (Str × Nat)} {mi : M (List PyData)} {g : St1} {t : M Bool} {m : M PyData} (hc : X.calm = true) (hN : X.N.Nodup) (hy : X.N[j]? = some y) (hyl : X.env.scope.names.lookup y = some .local)
    (hk : ks[j]? = some .frz) (hpj : psOk ps j = true)
    (hsw : swapsWith (.ListComp elt [⟨tg, it, ifs, 0⟩] scope pos) (some (.Name y py)) spos.line X.env = pure true) (hi : ID X ks ps tg it mi) (ok : BlkOk X.N X.env.scope scope own)
    (hg : ∀ (s : Shared) (H : Hp) (C : Addr) (cl : List (Str × Addr)) (fp : List Addr), GD (X.blk s H scope (compEnvC scope cl C X.env) fp) ks ps (own.map (·.2)) tg g)
    (ht : ∀ (s : Shared) (H : Hp) (C : Addr) (cl : List (Str × Addr)) (fp : List Addr), PTs (X.blk s H scope (compEnvC scope cl C X.env) fp) ifs (tT X.K ks ps t))
    (he : ∀ (s : Shared) (H : Hp) (C : Addr) (cl : List (Str × Addr)) (fp : List Addr), ED (X.blk s H scope (compEnvC scope cl C X.env) fp) ks ps elt m)
    (hp : frzAll ks ps (own.map (·.2)) = true)
    (hs : ∀ x, foldedSetIterable it X.env x = pure x := by intro _; rfl) : SD X ks ps rk (.Assign [.Name y py] (.ListComp elt [⟨tg, it, ifs, 0⟩] scope pos) spos) (sAsg (mComp mi g t m (own.map (·.2))) (gNm j)) :=
  PS.imp (ps_setLc hc hN hy hyl hsw hi ok hg ht he hs) fun D σ H q => by
    obtain ⟨G, F, env, out, I, hm, q⟩ := q
    obtain ⟨d, e1, e2, h1, h2, rfl⟩ := sAsg_some hm
    cases h2
    obtain ⟨ds, e3, ys, e4, h3, hl, h4, rfl, rfl⟩ := mComp_some h1
    obtain ⟨hk', hp⟩ := frzAll_k hp
    refine comp_read (Q := fun x H1 => gName j x σ H1 D.nx) I h3 hl h4 hk' hp fun L xs F' H' S J hD eD ra nO => q _ F' H' S ((J.lessG fun _ z => .inl z).set_frz hk (psOk_ne hpj) ?_)
    simp only [Rep]
    exact ⟨L, xs, rfl, LstAt.rd (.inl eD) nO, RepA.kp (Kp.less fun a z => z.elim (fun z => .inl (.inl z)) .inr) ra⟩
end
end DL

/-! DLF: defs as functions of data; their calls. -/
namespace DL
open PySem PySem.Spec PyProof.Rows L2

/-- a def's promise where no repr is under way -/
structure FnG (P : Program) (w : World) (K : PySem.W.Frag) (mg : Str → Option Value) (base : Heap) (CX : CXT) (k : Nat) (f : Addr) (fd : FuncData) (ps : List Str) (sp : Sp) : Prop where
  len : ∀ vs H Q E, sp vs H Q E → vs.length = ps.length
  run : ∀ (A : Around) (outer : List Env) (s : Shared) (H : Hp) (args : Args) (us : List Value) (vs : List V) (Q : VK) (E : XK), Room k A → A.guards = some [] →
    Env0 P w K mg base A outer s H → BindsTo s fd args (ps.zip us) → Vals vs us → sp vs H Q E → codeAny (model P w) A (.call (.ref f) args) (CR CX outer P w H s Q E) s
section
variable {P : Program} {w : World} {K : PySem.W.Frag} {mg : Str → Option Value} {base : Heap} {CX : CXT} {j k : Nat} {f : Addr} {fd : FuncData} {ps : List Str} {sp : Sp}
theorem FnG.up (F : FnG P w K mg base CX j f fd ps sp) (h : j ≤ k) : FnG P w K mg base CX k f fd ps sp where
  len := F.len
  run := fun A outer s H args us vs Q E hr hg e0 hb hv hs => F.run A outer s H args us vs Q E (hr.mono h) hg e0 hb hv hs
theorem FnG.weak {sp' : Sp} (F : FnG P w K mg base CX k f fd ps sp) (h : ∀ vs H Q E, sp' vs H Q E → sp vs H Q E) : FnG P w K mg base CX k f fd ps sp' where
  len := fun vs H Q E q => F.len vs H Q E (h _ _ _ _ q)
  run := fun A outer s H args us vs Q E hr hg e0 hb hv hs => F.run A outer s H args us vs Q E hr hg e0 hb hv (h _ _ _ _ hs)
/-- by the body -/
theorem FnG.of_body {x qual : Str} {st : Stmt} {N : List Str} (F : Fun K x qual st f fd) (S : FnScope N ps (defScope st)) (len : ∀ vs H Q E, sp vs H Q E → vs.length = ps.length)
    (body : ∀ (cdv : Value) (A : Around) (outer : List Env) (s : Shared) (H : Hp) (vs : List V) (Q : VK) (E : XK), Room k (A.deeper (envOfC qual (defScope st) s.heap.objs.size f cdv)) → A.guards = some [] → sp vs H Q E →
      ∃ t, PSs (cxOf CX P w K mg base N qual (defScope st) f cdv A outer s H E) (defBody st) t ∧ t { nx := fun _ H' => Q .non H', rt := Q } (start N vs) H) : FnG P w K mg base CX (k + 1) f fd ps sp := by
  obtain ⟨oc, od, kV, doc, pm, an, cdv, ct, osl, efd, lk, hcd⟩ := F.ex
  subst efd
  constructor
  · exact len
  intro A outer s H args us vs Q E room hg e0 bind rel hsp
  have inK : K.In s.heap := e0.mod.kin.keeps fun b o e => (e0.bs b o e).1
  have nol : s.heap.NoLimit := e0.mod.nolimit.keeps fun b o e => (e0.bs b o e).1
  have kinds : ∀ y ∈ ps.zip us, (defScope st).names.lookup y.1 = some .local ∨ ((defScope st).names.lookup y.1 = some .cell ∧ ((cellsFrom (s.heap.objs.size + 1) (defScope st).names []).lookup y.1).isSome = true) := by
    rintro ⟨n, v⟩ hy
    rcases S.par n (List.of_mem_zip hy).1 with q | q
    · exact Or.inl q
    · exact Or.inr ⟨q, PySem.W.cellsFrom_some _ _ _ (Or.inl q)⟩
  refine codeAny_call_function room.depth (inK _ _ lk) rfl S.co S.gen rfl (PySem.W.codeRec_of inK hcd) (bind _ _ _ _ (wpAny_newFunctionEnv_cells S.kind kinds ?_))
  intro env he s1 x
  subst he
  refine ⟨nol.keeps x.toInCall.keep, codeAny_func ?_⟩
  obtain ⟨t, ht, hq⟩ := body cdv A outer s H vs Q E (room.deeper _) hg hsp
  have I := inv_start (CX := CX) (E := E) S room.hd e0 (len _ _ _ _ hsp) rel x
  refine wpAny_mono (ht.run [] s1 (start N vs) H _ I hq) (fun fl s' hs => ?_) fun e s' hs => hs
  cases fl with
  | ret u =>
    obtain ⟨v, σ', H', J, rv, q⟩ := hs
    exact ⟨v, H', J.os, J.bare, J.base, J.hok, rv, q⟩
  | next =>
    obtain ⟨σ', H', J, q⟩ := hs
    exact ⟨V.non, H', J.os, J.bare, J.base, J.hok, (show Value.none = Value.none from rfl), q⟩
  | brk => exact (hs.elim fun _ h => h.elim fun _ h => h.2).elim
  | cont => exact (hs.elim fun _ h => h.elim fun _ h => h.2).elim
end
section
variable {X : Cx} {CX : CXT} {k : Nat} {f : Addr} {fd : FuncData} {ps : List Str} {sp : Sp} {E : XK} {x : Str} {p pos : Pos} {e : Expr} {es : List Expr} {t : TA}
theorem FnG.at {pins : List (Addr × Obj)} {σ : L2.St} {H : Hp} {s : Shared} {Q : VK} {us : List Value} {vs : List V} (F : FnG X.prog X.w X.K X.mg X.base CX k f fd ps sp) (hr : Room k X.A) (hg : X.A.guards = some []) (hb : Binds X.K fd ps []) (hx : Passes CX X E)
    (I : Inv X pins σ H s) (r : Vals vs us) (h : sp vs H Q E) : wpAny (model X.prog X.w) X.A (call (.ref f) us) (EP X pins σ Q) X.xe s := by
  have hl : us.length = ps.length := by rw [← r.length]; exact F.len _ _ _ _ h
  have hbt : BindsTo s fd ⟨us, []⟩ (ps.zip us) := by
    have := hb s us I.kIn (by rw [List.append_nil]; exact hl)
    rwa [List.append_nil] at this
  refine wpAny_call (codeAny_mono (F.run X.A X.stack s H ⟨us, []⟩ us vs Q E hr hg I.env0 hbt r h) ?_)
  intro res s' hq
  match res, hq with
  | .error e, hq => exact hx pins σ H s e s' I hq
  | .ok (.ret u), hq => exact I.after hq
  | .ok .next, hq => exact False.elim hq
  | .ok .brk, hq => exact False.elim hq
  | .ok .cont, hq => exact False.elim hq
theorem pg_call (F : FnG X.prog X.w X.K X.mg X.base CX k f fd ps sp) (hr : Room k X.A) (hgd : X.A.guards = some []) (hg : Gl X x) (hm : X.mg x = some (.ref f)) (hk : PySem.W.keepIn X.K (.ref f) = true) (hb : Binds X.K fd ps []) (hx : Passes CX X E)
    (ha : PA X (e :: es) t) (hdb : (x == ("__debug__" : Str)) = false := by decide) (he : starEach (e :: es) X.env = (false, eval e X.env) :: starEach es X.env := by rfl) (hpl : (backTo pos (starEach es X.env)).any (·.1) = false := by rfl) :
    PE X (.Call (.Name x p) (e :: es) [] pos) (fun σ H Q => t σ H fun vs H1 => sp vs H1 Q E) := by
  constructor
  intro pins s σ H Q I h
  refine wpAny_Call_Name_kw (ld_glob I hg hm (PySem.W.callWith_K (h₀ := X.base) I.ok.mod.kin hk (thn (ha.run pos pins s σ H _ I h) ?_) he hpl) hdb)
  rintro us s1 ⟨vs, H1, I1, r, q⟩
  exact ⟨I1.kIn, F.at hr hgd hb hx I1 r q⟩
theorem pg_call0 (F : FnG X.prog X.w X.K X.mg X.base CX k f fd ps sp) (hr : Room k X.A) (hgd : X.A.guards = some []) (hg : Gl X x) (hm : X.mg x = some (.ref f)) (hk : PySem.W.keepIn X.K (.ref f) = true) (hb : Binds X.K fd ps []) (hx : Passes CX X E)
    (hdb : (x == ("__debug__" : Str)) = false := by decide) : PE X (.Call (.Name x p) [] [] pos) (fun σ H Q => sp [] H Q E) := by
  constructor
  intro pins s σ H Q I h
  exact wpAny_Call_Name_kw (ld_glob I hg hm (PySem.W.callWith_K0 I.kIn hk (F.at (us := []) hr hgd hb hx I .nil h)) hdb)
end

/-! ### promises over data -/
/-- the parameters' kinds pk; what comes back is of the kind rk; mf: from the parameters' data to what comes back and the parameters' data behind -/
def spD (K : PySem.W.Frag) (pk : List Kd) (rk : Kd) (mf : List PyData → Option (PyData × List PyData)) : Sp := fun vs H Q _ => vs.length = pk.length ∧ ∃ G F ds d outs, EI K pk [] G F (vs.map some) H (ds.map some) ∧ mf ds = some (d, outs) ∧
  ∀ v F' H' Fr, Stp F H F' H' → EI K pk [] (fun a => G a ∨ a ∈ Fr) F' (vs.map some) H' (outs.map some) → OwnAt K H' (OO (fun a => G a ∨ a ∈ Fr) F') rk Fr d v → Fr.Nodup → (∀ a ∈ Fr, ¬ G a ∧ (a ∈ F.flatten ∨ H a = none)) → Q v H'
/-- a def that keeps a promise over data -/
def FnD (P : Program) (w : World) (K : PySem.W.Frag) (mg : Str → Option Value) (base : Heap) (k : Nat) (x : Str) (pk : List Kd) (rk : Kd) (mf : List PyData → Option (PyData × List PyData)) : Prop :=
  ∃ f fd ps, FnG P w K mg base CX0 k f fd ps (spD K pk rk mf) ∧ mg x = some (.ref f) ∧ PySem.W.keepIn K (.ref f) = true ∧ Binds K fd ps []
theorem FnD.up {P : Program} {w : World} {K : PySem.W.Frag} {mg : Str → Option Value} {base : Heap} {j k : Nat} {x : Str} {pk : List Kd} {rk : Kd} {mf : List PyData → Option (PyData × List PyData)} (F : FnD P w K mg base j x pk rk mf) (h : j ≤ k) : FnD P w K mg base k x pk rk mf := by
  obtain ⟨f, fd, ps, h1, h2, h3, h4⟩ := F
  exact ⟨f, fd, ps, h1.up h, h2, h3, h4⟩
/-- a weaker function: where mf' tells, mf tells the same -/
theorem FnD.weak {P : Program} {w : World} {K : PySem.W.Frag} {mg : Str → Option Value} {base : Heap} {k : Nat} {x : Str} {pk : List Kd} {rk : Kd} {mf mf' : List PyData → Option (PyData × List PyData)} (F : FnD P w K mg base k x pk rk mf) (h : ∀ ds r, mf' ds = some r → mf ds = some r) : FnD P w K mg base k x pk rk mf' := by
  obtain ⟨f, fd, ps, h1, h2, h3, h4⟩ := F
  refine ⟨f, fd, ps, h1.weak fun vs H Q E q => ?_, h2, h3, h4⟩
  obtain ⟨hl, G, F, ds, d, outs, I, hm, q⟩ := q
  exact ⟨hl, G, F, ds, d, outs, I, h _ _ hm, q⟩

/-- the parameters' data behind a def: what isn't owned is as it was -/
def outsOf : List Kd → List PyData → Ev → Option (List PyData)
  | [], [], _ => some []
  | .frz :: ks, d :: ds, _ :: e => (outsOf ks ds e).map (d :: ·)
  | _ :: ks, _ :: ds, some y :: e => (outsOf ks ds e).map (y :: ·)
  | _, _, _ => none
def finB (pk : List Kd) (ds : List PyData) (d : PyData) (e : Ev) : Option (PyData × List PyData) := (outsOf pk ds e).map fun outs => (d, outs)
/-- the def as a function of data: n names in all -/
def mDef (rk : Kd) (pk : List Kd) (n : Nat) (mb : B) (ds : List PyData) : Option (PyData × List PyData) :=
  match mb (ds.map some ++ List.replicate (n - ds.length) none) with
  | some (.rt d e) => finB pk ds d e
  | some (.nx e) => if rk = .frz then finB pk ds .none e else none
  | _ => none
theorem outsOf_get : ∀ {pk : List Kd} {ds : List PyData} {e : Ev} {outs : List PyData}, outsOf pk ds e = some outs → outs.length = pk.length ∧ ds.length = pk.length ∧ ∀ (i : Nat) d kd, outs[i]? = some d → pk[i]? = some kd → (kd = .frz ∧ ds[i]? = some d) ∨ (kd ≠ .frz ∧ e[i]? = some (some d))
  | [], [], _, outs, h => by
    unfold outsOf at h
    cases h
    exact ⟨rfl, rfl, fun i d kd h => by simp at h⟩
  | [], _ :: _, _, _, h => by unfold outsOf at h; cases h
  | k :: pk, [], _, _, h => by cases k <;> (unfold outsOf at h; cases h)
  | k :: pk, d :: ds, [], _, h => by cases k <;> (unfold outsOf at h; cases h)
  | k :: pk, d :: ds, y :: e, outs, h => by
    by_cases hk : k = .frz
    · subst hk
      unfold outsOf at h
      obtain ⟨os, h1, rfl⟩ := Option.map_eq_some_iff.mp h
      obtain ⟨l1, l2, g⟩ := outsOf_get h1
      refine ⟨by simp [l1], by simp [l2], fun i d' kd e1 e2 => ?_⟩
      cases i with
      | zero => simp at e1 e2; subst e1; subst e2; exact .inl ⟨rfl, rfl⟩
      | succ i => simpa using g i d' kd (by simpa using e1) (by simpa using e2)
    · cases y with
      | none => cases k <;> first | exact absurd rfl hk | (unfold outsOf at h; cases h)
      | some z =>
        have h' : outsOf (k :: pk) (d :: ds) (some z :: e) = (outsOf pk ds e).map (z :: ·) := by
          cases k <;> first | exact absurd rfl hk | rfl
        rw [h'] at h
        obtain ⟨os, h1, rfl⟩ := Option.map_eq_some_iff.mp h
        obtain ⟨l1, l2, g⟩ := outsOf_get h1
        refine ⟨by simp [l1], by simp [l2], fun i d' kd e1 e2 => ?_⟩
        cases i with
        | zero => simp at e1 e2; subst e1; subst e2; exact .inr ⟨hk, rfl⟩
        | succ i => simpa using g i d' kd (by simpa using e1) (by simpa using e2)
/-- what the own parameters hold stays in their slots -/
def pinsOf (own : List Nat) (vs : List V) : List (Nat × V) := own.filterMap fun i => (vs[i]?).map fun v => (i, v)

section
variable {P : Program} {w : World} {K : PySem.W.Frag} {mg : Str → Option Value} {base : Heap} {k : Nat} {f : Addr} {fd : FuncData}
theorem flat_pad {F : List (List Addr)} {n : Nat} {a : Addr} : a ∈ (F ++ List.replicate n []).flatten ↔ a ∈ F.flatten := by
  rw [List.flatten_append, List.mem_append]
  constructor
  · rintro (h | h)
    · exact h
    · obtain ⟨l, h1, h2⟩ := List.mem_flatten.mp h
      rw [List.mem_replicate] at h1
      rw [h1.2] at h2
      cases h2
  · exact .inl
theorem EI.start {ks : List Kd} {ps : List (Nat × V)} {pk : List Kd} {G : Addr → Prop} {F : List (List Addr)} {H : Hp} {vs : List V} {ds : List PyData} {n : Nat} {N : List Str} (I : EI K pk [] G F (vs.map some) H (ds.map some)) (hn : N.length = n) (hks : ks.length = n) (htk : ks.take pk.length = pk)
    (hps : ∀ p ∈ ps, vs[p.1]? = some p.2) : EI K ks ps G (F ++ List.replicate (n - ds.length) []) (start N vs) H (ds.map some ++ List.replicate (n - ds.length) none) := by
  have lF := I.lF
  have lE : ds.length = pk.length := by have := I.lE; simpa using this
  have lS : vs.length = pk.length := by have := I.lS; simpa using this
  have hle : pk.length ≤ n := by have := congrArg List.length htk; rw [List.length_take] at this; omega
  have kget : ∀ {i : Nat} {kd : Kd}, ks[i]? = some kd → i < pk.length → pk[i]? = some kd := fun {i kd} h hi => by
    rw [← htk, List.getElem?_take, if_pos hi]; exact h
  refine ⟨by simp; omega, by simp; omega, by unfold L2.start; simp; omega, ⟨fun i Fi e => ?_, fun i j Fi Fj a e1 e2 m1 m2 => ?_⟩, fun a ha => I.tr a (flat_pad.mp ha), I.gt, fun i d kd h1 h2 => ?_, fun p hp => ?_, fun i h => ?_⟩
  · by_cases hi : i < F.length
    · rw [List.getElem?_append_left hi] at e
      exact I.nd.own i Fi e
    · rw [List.getElem?_append_right (by omega), List.getElem?_replicate] at e
      split at e
      · cases e; exact List.nodup_nil
      · cases e
  · have at_ : ∀ {i : Nat} {Fi : List Addr}, (F ++ List.replicate (n - ds.length) [])[i]? = some Fi → a ∈ Fi → F[i]? = some Fi := fun {i Fi} e m => by
      by_cases hi : i < F.length
      · rwa [List.getElem?_append_left hi] at e
      · rw [List.getElem?_append_right (by omega), List.getElem?_replicate] at e
        split at e
        · cases e; cases m
        · cases e
    exact I.nd.apart i j Fi Fj a (at_ e1 m1) (at_ e2 m2) m1 m2
  · have hi : i < ds.length := by
      by_cases hi : i < ds.length
      · exact hi
      · rw [List.getElem?_append_right (by simp; omega), List.getElem?_replicate] at h1
        split at h1 <;> first | exact nomatch (Option.some.inj h1) | exact nomatch h1
    rw [List.getElem?_append_left (by simpa using hi)] at h1
    obtain ⟨v, Fi, e1, e2, o⟩ := I.sl i d kd h1 (kget h2 (by omega))
    refine ⟨v, Fi, ?_, by rw [List.getElem?_append_left (by omega)]; exact e2, o.kp (Kp.less fun a z => z.elim .inl fun z => .inr (flat_pad.mp z)) fun a _ ob e => e⟩
    unfold L2.start
    rw [List.getElem?_append_left (by simp; omega)]
    exact e1
  · have := hps p hp
    unfold L2.start
    rw [List.getElem?_append_left (by simp; exact (List.getElem?_eq_some_iff.mp this).1), List.getElem?_map, this]
    rfl
  · by_cases hi : i < pk.length
    · rw [List.getElem?_append_left (by omega)]
      exact I.fz i (kget h hi)
    · have : i < n := by rw [← hks]; exact (List.getElem?_eq_some_iff.mp h).1
      rw [List.getElem?_append_right (by omega), List.getElem?_replicate, if_pos (by omega)]
theorem Dis.nil {F : List (List Addr)} (D : Dis F) : Dis (F ++ [[]]) := by
  have at_ : ∀ {i : Nat} {Fi : List Addr}, (F ++ [[]])[i]? = some Fi → F[i]? = some Fi ∨ Fi = [] := fun {i Fi} e => by
    by_cases hi : i < F.length
    · rw [List.getElem?_append_left hi] at e
      exact .inl e
    · rw [List.getElem?_append_right (by omega)] at e
      cases h : i - F.length with
      | zero => rw [h] at e; simp at e; exact .inr e
      | succ n => rw [h] at e; simp at e
  refine ⟨fun i Fi e => ?_, fun i j Fi Fj a e1 e2 m1 m2 => ?_⟩
  · rcases at_ e with e | e
    · exact D.own i Fi e
    · subst e; exact List.nodup_nil
  · rcases at_ e1 with e1 | e1
    · rcases at_ e2 with e2 | e2
      · exact D.apart i j Fi Fj a e1 e2 m1 m2
      · subst e2; cases m2
    · subst e1; cases m1
/-- a def by its body, as a function of data; own: the parameters that are owned -/
theorem FnD.of_body {rk : Kd} {x qual xm : Str} {st : Stmt} {N ps : List Str} {pk ks : List Kd} {own : List Nat} {mb : B} (F : Fun K x qual st f fd) (hm : mg xm = some (.ref f)) (hb : Binds K fd ps []) (S : FnScope N ps (defScope st)) (hpk : pk.length = ps.length) (hks : ks.length = N.length)
    (htk : ks.take pk.length = pk) (hown : ∀ (i : Nat) kd, pk[i]? = some kd → kd ≠ .frz → i ∈ own)
    (body : ∀ (cdv : Value) (A : Around) (outer : List Env) (s : Shared) (H : Hp) (E : XK) (vs : List V), Room k (A.deeper (envOfC qual (defScope st) s.heap.objs.size f cdv)) → (A.deeper (envOfC qual (defScope st) s.heap.objs.size f cdv)).guards = some [] → vs.length = ps.length →
      SsD (cxOf CX0 P w K mg base N qual (defScope st) f cdv A outer s H E).nox ks (pinsOf own vs) rk (defBody st) mb) : FnD P w K mg base (k + 1) xm pk rk (mDef rk pk N.length mb) := by
  refine ⟨f, fd, ps, FnG.of_body F S (fun vs H Q E h => by rw [h.1, hpk]) (fun cdv A outer s H vs Q E room hg h => ?_), hm, F.kp, hb⟩
  obtain ⟨hl, G, Fp, ds, d, outs, I, hmf, q⟩ := h
  have hl2 : vs.length = ps.length := by rw [hl, hpk]
  refine ⟨_, PSs.nox (body cdv A outer s H E vs room hg hl2), ?_⟩
  have hps : ∀ p ∈ pinsOf own vs, vs[p.1]? = some p.2 := fun p hp => by
    obtain ⟨i, _, e⟩ := List.mem_filterMap.mp hp
    obtain ⟨v, e1, e2⟩ := Option.map_eq_some_iff.mp e
    subst e2
    exact e1
  have lE : ds.length = pk.length := by have := I.lE; simpa using this
  have hle : pk.length ≤ ks.length := by have := congrArg List.length htk; rw [List.length_take] at this; omega
  have I0 := EI.start (ks := ks) (ps := pinsOf own vs) (n := N.length) (N := N) I rfl hks htk hps
  unfold mDef at hmf
  have fin : ∀ {v : V} {σ' : L2.St} {F' : List (List Addr)} {H' : Hp} {e : Ev} {d' : PyData} {Fr : List Addr}, finB pk ds d' e = some (d, outs) → Stp (Fp ++ List.replicate (N.length - ds.length) []) H F' H' → EI K ks (pinsOf own vs) (fun a => G a ∨ a ∈ Fr) F' σ' H' e →
      OwnAt K H' (OO (fun a => G a ∨ a ∈ Fr) F') rk Fr d' v → Fr.Nodup → (∀ a ∈ Fr, ¬ G a ∧ (a ∈ Fp.flatten ∨ H a = none)) → Q v H' := by
    intro v σ' F' H' e d' Fr hf S1 J r nF hF
    obtain ⟨os, h1, h2⟩ := Option.map_eq_some_iff.mp hf
    cases h2
    obtain ⟨l1, _, g⟩ := outsOf_get h1
    have lF' := J.lF
    have tk : ∀ {i : Nat} {Fi : List Addr}, (F'.take pk.length)[i]? = some Fi → F'[i]? = some Fi ∧ i < pk.length := fun {i Fi} e => by
      rw [List.getElem?_take] at e
      split at e
      · exact ⟨e, by assumption⟩
      · cases e
    have sub : ∀ {a : Addr}, a ∈ (F'.take pk.length).flatten → a ∈ F'.flatten := fun {a} ha => by
      obtain ⟨i, Fi, e, m⟩ := mem_flat.mp ha
      exact mem_flat.mpr ⟨i, Fi, (tk e).1, m⟩
    have S2 : Stp Fp H (F'.take pk.length) H' := ⟨fun a o e n => S1.keep a o e fun z => n (flat_pad.mp z), S1.dom, S1.tup, S1.frz, fun a ha => (S1.new a (sub ha)).imp flat_pad.mp id⟩
    refine q v (F'.take pk.length) H' Fr S2 ⟨by rw [List.length_take]; omega, by simpa using l1, by simpa using hl, ⟨fun i Fi e => J.nd.own i Fi (tk e).1, fun i j Fi Fj a e1 e2 => J.nd.apart i j Fi Fj a (tk e1).1 (tk e2).1⟩, fun a ha => J.tr a (sub ha), J.gt, fun i dd kd h3 h4 => ?_, (fun p hp => nomatch hp), fun i h => ?_⟩ (r.kp (Kp.less fun a z => z.imp id sub) fun a _ ob e => e) nF hF
    · rw [List.getElem?_map] at h3
      obtain ⟨d2, e2, e3⟩ := Option.map_eq_some_iff.mp h3
      cases e3
      have hi : i < pk.length := (List.getElem?_eq_some_iff.mp h4).1
      have hk4 : ks[i]? = some kd := by rw [← htk, List.getElem?_take, if_pos hi] at h4; exact h4
      rcases g i dd kd e2 h4 with ⟨rfl, e5⟩ | ⟨hne, e5⟩
      · obtain ⟨v', e6, r'⟩ := I.at_frz (i := i) (d := dd) (by rw [List.getElem?_map, e5]; rfl) h4
        exact ⟨v', [], e6, by rw [List.getElem?_take, if_pos hi]; exact J.fz i hk4, rfl, Rep.kp (S2.kp2 fun a z => z.imp id fun z => (hF a z).2) r'⟩
      · obtain ⟨v', Fi, e6, e7, o⟩ := J.sl i dd kd e5 hk4
        have hin : i ∈ own := hown i kd h4 hne
        have hvi : i < vs.length := by rw [hl]; exact hi
        have e8 := J.pn (i, vs[i]) (List.mem_filterMap.mpr ⟨i, hin, by rw [List.getElem?_eq_getElem hvi]; rfl⟩)
        have e9 : v' = vs[i] := by
          dsimp only at e8
          rw [e6] at e8
          exact Option.some.inj (Option.some.inj e8)
        subst e9
        refine ⟨_, Fi, by rw [List.getElem?_map, List.getElem?_eq_getElem hvi]; rfl, by rw [List.getElem?_take, if_pos hi]; exact e7, o.kp (Kp.less fun a z => z.elim .inl fun z => .inr (sub z)) fun a _ ob e => e⟩
    · have hi : i < pk.length := (List.getElem?_eq_some_iff.mp h).1
      have hk4 : ks[i]? = some Kd.frz := by rw [← htk, List.getElem?_take, if_pos hi] at h; exact h
      rw [List.getElem?_take, if_pos hi]
      exact J.fz i hk4
  split at hmf
  · rename_i d' e h1
    exact ⟨G, _, _, _, I0, h1, fun v σ' F' H' Fr S1 J r nF hF => fin hmf S1 J r nF fun a ha => ⟨(hF a ha).1, (hF a ha).2.imp flat_pad.mp id⟩⟩
  · rename_i e h1
    split at hmf
    · rename_i hrk
      subst hrk
      exact ⟨G, _, _, _, I0, h1, fun σ' F' H' S1 J => fin (Fr := []) hmf S1 (by rw [noneG]; exact J) ⟨rfl, rep_non⟩ List.nodup_nil fun a ha => nomatch ha⟩
    · cases hmf
  · cases hmf
end
end DL

/-! DLG: calls of defs; what is owned is made, changed, given away. -/
namespace DL
open PySem PySem.Spec PyProof.Rows L2
section
variable {rk : Kd} {X : Cx} {ks : List Kd} {ps : List (Nat × V)} {a b c e o : Expr} {es : List Expr} {pos pos' : Pos}

/-! ### slots that own -/
/-- slot i's own things are changed (or others come in their place), more is kept from being held -/
theorem EI.swap2 {K : PySem.W.Frag} {G G' : Addr → Prop} {F : List (List Addr)} {σ : L2.St} {H H' : Hp} {env : Ev} {i : Nat} {kd : Kd} {Fi Fi' : List Addr} {d : PyData} {v : V} (I : EI K ks ps G F σ H env) (hF : F[i]? = some Fi) (hk : ks[i]? = some kd) (hne : kd ≠ .frz) (hσ : σ[i]? = some (some v))
    (keep : ∀ a o, H a = some o → a ∉ Fi → H' a = some o) (dom : ∀ a, H a ≠ none → H' a ≠ none) (tup : ∀ a xs, H a = some (.tup xs) → H' a = some (.tup xs)) (frz : ∀ a o u, H a = some (.frz o u) → H' a = some (.frz o u))
    (hn : Fi'.Nodup) (hnew : ∀ a ∈ Fi', (a ∈ Fi ∨ H a = none) ∧ H' a ≠ none ∧ ¬ G' a) (hG : ∀ a, G' a → G a ∨ a ∈ Fi ∨ H a = none) (hG2 : ∀ a, G' a → H' a ≠ none) (ho : OwnAt K H' (OO G' (F.set i Fi')) kd Fi' d v) : EI K ks ps G' (F.set i Fi') σ H' (env.set i (some d)) ∧ Stp F H (F.set i Fi') H' := by
  have hi : i < ks.length := (List.getElem?_eq_some_iff.mp hk).1
  have inF : ∀ {a : Addr}, a ∈ Fi → a ∈ F.flatten := fun {a} h => mem_flat.mpr ⟨i, Fi, hF, h⟩
  have S : Stp F H (F.set i Fi') H' := by
    refine ⟨fun a o e n => keep a o e fun z => n (inF z), dom, tup, frz, fun a ha => ?_⟩
    rcases mem_set ha with h | ⟨j, Fj, hj, e, m⟩
    · exact (hnew a h).1.imp inF id
    · exact .inl (mem_flat.mpr ⟨j, Fj, e, m⟩)
  refine ⟨⟨by rw [List.length_set]; exact I.lF, by rw [List.length_set]; exact I.lE, I.lS, I.nd.set hn fun a ha j Fj hj e m => ?_, fun a ha => ?_, hG2, fun j d' kd' h1 h2 => ?_, I.pn, fun j h => ?_⟩, S⟩
  · rcases (hnew a ha).1 with h | h
    · exact hj (I.nd.apart j i Fj Fi a e hF m h)
    · exact (I.tr a (mem_flat.mpr ⟨j, Fj, e, m⟩)).1 h
  · rcases mem_set ha with h | ⟨j, Fj, hj, e, m⟩
    · exact (hnew a h).2
    · have t := I.tr a (mem_flat.mpr ⟨j, Fj, e, m⟩)
      refine ⟨dom a t.1, fun z => ?_⟩
      rcases hG a z with z | z | z
      · exact t.2 z
      · exact hj (I.nd.apart j i Fj Fi a e hF m z)
      · exact t.1 z
  · by_cases hj : j = i
    · subst hj
      rw [List.getElem?_set_self (by rw [I.lE]; exact hi)] at h1
      cases h1
      rw [hk] at h2; cases h2
      exact ⟨v, Fi', hσ, by rw [List.getElem?_set_self (by rw [I.lF]; exact hi)], ho⟩
    · rw [List.getElem?_set_ne (Ne.symm hj)] at h1
      obtain ⟨w, Fj, e1, e2, o⟩ := I.sl j d' kd' h1 h2
      refine ⟨w, Fj, e1, by rw [List.getElem?_set_ne (Ne.symm hj)]; exact e2, o.kp (S.kp2 fun a z => (hG a z).imp id fun z => z.imp inF id) fun a ha ob e => keep a ob e fun z => hj (I.nd.apart j i Fj Fi a e2 hF ha z)⟩
  · have hj : j ≠ i := fun z => by subst z; rw [hk] at h; exact hne (Option.some.inj h)
    rw [List.getElem?_set_ne (Ne.symm hj)]
    exact I.fz j h
/-- slot i's own things are changed (or others come in their place) -/
theorem EI.swap {K : PySem.W.Frag} {G : Addr → Prop} {F : List (List Addr)} {σ : L2.St} {H H' : Hp} {env : Ev} {i : Nat} {kd : Kd} {Fi Fi' : List Addr} {d : PyData} {v : V} (I : EI K ks ps G F σ H env) (hF : F[i]? = some Fi) (hk : ks[i]? = some kd) (hne : kd ≠ .frz) (hσ : σ[i]? = some (some v))
    (keep : ∀ a o, H a = some o → a ∉ Fi → H' a = some o) (dom : ∀ a, H a ≠ none → H' a ≠ none) (tup : ∀ a xs, H a = some (.tup xs) → H' a = some (.tup xs)) (frz : ∀ a o u, H a = some (.frz o u) → H' a = some (.frz o u))
    (hn : Fi'.Nodup) (hnew : ∀ a ∈ Fi', (a ∈ Fi ∨ H a = none) ∧ H' a ≠ none) (ho : OwnAt K H' (OO G (F.set i Fi')) kd Fi' d v) : EI K ks ps G (F.set i Fi') σ H' (env.set i (some d)) ∧ Stp F H (F.set i Fi') H' :=
  I.swap2 hF hk hne hσ keep dom tup frz hn (fun a h => ⟨(hnew a h).1, (hnew a h).2, fun z => (hnew a h).1.elim (fun m => (I.tr a (mem_flat.mpr ⟨i, Fi, hF, m⟩)).2 z) (I.gt a z)⟩) (fun a z => .inl z) (fun a z => dom a (I.gt a z)) ho
/-- a slot takes what is new and its own -/
theorem EI.setOwn {K : PySem.W.Frag} {G : Addr → Prop} {F : List (List Addr)} {σ : L2.St} {H : Hp} {env : Ev} {i : Nat} {kd : Kd} {Fr : List Addr} {d : PyData} {v : V} (I : EI K ks ps (fun a => G a ∨ a ∈ Fr) F σ H env) (hk : ks[i]? = some kd) (hne : kd ≠ .frz) (hp : psOk ps i = true)
    (hn : Fr.Nodup) (hG : ∀ a ∈ Fr, ¬ G a) (ho : OwnAt K H (OO (fun a => G a ∨ a ∈ Fr) F) kd Fr d v) : EI K ks ps G (F.set i Fr) (σ.set i (some v)) H (env.set i (some d)) := by
  have hi : i < ks.length := (List.getElem?_eq_some_iff.mp hk).1
  have less : ∀ a, OO G (F.set i Fr) a → OO (fun a => G a ∨ a ∈ Fr) F a := fun a z => by
    rcases z with z | z
    · exact .inl (.inl z)
    · rcases mem_set z with h | ⟨j, Fj, hj, e, m⟩
      · exact .inl (.inr h)
      · exact .inr (mem_flat.mpr ⟨j, Fj, e, m⟩)
  refine ⟨by rw [List.length_set]; exact I.lF, by rw [List.length_set]; exact I.lE, by rw [List.length_set]; exact I.lS, I.nd.set hn fun a ha j Fj hj e m => (I.tr a (mem_flat.mpr ⟨j, Fj, e, m⟩)).2 (.inr ha), fun a ha => ?_, fun a ha => I.gt a (.inl ha), fun j d' kd' h1 h2 => ?_, fun p hp' => ?_, fun j h => ?_⟩
  · rcases mem_set ha with h | ⟨j, Fj, hj, e, m⟩
    · exact ⟨I.gt a (.inr h), hG a h⟩
    · have t := I.tr a (mem_flat.mpr ⟨j, Fj, e, m⟩)
      exact ⟨t.1, fun z => t.2 (.inl z)⟩
  · by_cases hj : j = i
    · subst hj
      rw [List.getElem?_set_self (by rw [I.lE]; exact hi)] at h1
      cases h1
      rw [hk] at h2; cases h2
      exact ⟨v, Fr, by rw [List.getElem?_set_self (by rw [I.lS]; exact hi)], by rw [List.getElem?_set_self (by rw [I.lF]; exact hi)], ho.kp (Kp.less less) fun a _ ob e => e⟩
    · rw [List.getElem?_set_ne (Ne.symm hj)] at h1
      obtain ⟨w, Fj, e1, e2, o⟩ := I.sl j d' kd' h1 h2
      exact ⟨w, Fj, by rw [List.getElem?_set_ne (Ne.symm hj)]; exact e1, by rw [List.getElem?_set_ne (Ne.symm hj)]; exact e2, o.kp (Kp.less less) fun a _ ob e => e⟩
  · rw [List.getElem?_set_ne (Ne.symm (psOk_ne hp p hp'))]; exact I.pn p hp'
  · have hj : j ≠ i := fun z => by subst z; rw [hk] at h; exact hne (Option.some.inj h)
    rw [List.getElem?_set_ne (Ne.symm hj)]
    exact I.fz j h
/-- what a slot owns is given away -/
theorem EI.give {K : PySem.W.Frag} {G : Addr → Prop} {F : List (List Addr)} {σ : L2.St} {H : Hp} {env : Ev} {i : Nat} {d : PyData} (I : EI K ks ps G F σ H env) (h1 : env[i]? = some (some d)) (hp : psOk ps i = true) :
    ∃ v F', σ[i]? = some (some v) ∧ EI K ks ps G F' σ H (env.set i none) ∧ Rep K H (OO G F') d v ∧ (∀ a, OO G F' a → OO G F a) := by
  have hi : i < ks.length := by rw [← I.lE]; exact (List.getElem?_eq_some_iff.mp h1).1
  obtain ⟨v, Fi, e1, e2, o⟩ := I.sl i d _ h1 (List.getElem?_eq_getElem hi)
  have less : ∀ a, OO G (F.set i []) a → OO G F a := fun a z => by
    rcases z with z | z
    · exact .inl z
    · rcases mem_set z with h | ⟨j, Fj, hj, e, m⟩
      · cases h
      · exact .inr (mem_flat.mpr ⟨j, Fj, e, m⟩)
  refine ⟨v, F.set i [], e1, ⟨by rw [List.length_set]; exact I.lF, by rw [List.length_set]; exact I.lE, I.lS, I.nd.set List.nodup_nil (fun a ha => nomatch ha), fun a ha => ?_, I.gt, fun j d' kd' h3 h4 => ?_, I.pn, fun j h => ?_⟩, o.repP less fun a ha z => ?_, less⟩
  · rcases mem_set ha with h | ⟨j, Fj, hj, e, m⟩
    · cases h
    · exact I.tr a (mem_flat.mpr ⟨j, Fj, e, m⟩)
  · by_cases hj : j = i
    · subst hj
      rw [List.getElem?_set_self (by rw [I.lE]; exact hi)] at h3
      exact nomatch (Option.some.inj h3)
    · rw [List.getElem?_set_ne (Ne.symm hj)] at h3
      obtain ⟨w, Fj, g1, g2, o'⟩ := I.sl j d' kd' h3 h4
      exact ⟨w, Fj, g1, by rw [List.getElem?_set_ne (Ne.symm hj)]; exact g2, o'.kp (Kp.less less) fun a _ ob e => e⟩
  · by_cases hj : j = i
    · subst hj
      rw [List.getElem?_set_self (by rw [I.lF]; exact hi)]
    · rw [List.getElem?_set_ne (Ne.symm hj)]
      exact I.fz j h
  · rcases z with z | z
    · exact (I.tr a (mem_flat.mpr ⟨i, Fi, e2, ha⟩)).2 z
    · rcases mem_set z with h | ⟨j, Fj, hj, e, m⟩
      · cases h
      · exact hj (I.nd.apart j i Fj Fi a e e2 m ha)
/-- return x, x a slot that owns -/
def mTake (i : Nat) : M PyData := fun e => match e[i]? with
  | some (some d) => some (d, e.set i none)
  | _ => none
theorem ed_take (i : Nat) {x : Str} (hN : X.N[i]? = some x := by rfl) (hp : psOk ps i = true := by rfl) (hv : Vis X.env.scope x := by first | exact Or.inl rfl | exact Or.inr (Or.inl rfl) | exact Or.inr (Or.inr rfl)) (hd : (x == ("__debug__" : Str)) = false := by decide)
    (hcd : (x == ("__classdict__" : Str)) = false := by decide) : ED X ks ps (.Name x pos) (mTake i) := PE.imp (pe_var hN hv hd hcd) fun σ H Q q => by
  obtain ⟨G, F, env, d, env', I, hm, q⟩ := q
  unfold mTake at hm
  split at hm
  · rename_i d' he
    cases hm
    obtain ⟨v, F', e1, J, r, less⟩ := I.give he hp
    exact ⟨v, e1, q v F' H ⟨fun _ _ e _ => e, fun _ e => e, fun _ _ e => e, fun _ _ _ e => e, fun a ha => by
      rcases less a (.inr ha) with z | z
      · exact absurd z (J.tr a ha).2
      · exact .inl z⟩ J r⟩
  · cases hm

/-! ### what is new and one's own -/
theorem ed_own {kd : Kd} {m : M PyData} (h : FD X ks ps kd e m) : ED X ks ps e m := PE.imp h fun σ H Q q => by
  obtain ⟨G, F, env, d, env', I, hm, q⟩ := q
  refine ⟨G, F, env, d, env', I, hm, fun v F' H' Fr S J o hn hF => q v F' H' S (J.lessG fun _ z => .inl z) (o.repP (fun a z => z.elim (fun z => .inl (.inl z)) .inr) fun a ha z => ?_)⟩
  rcases z with z | z
  · exact (hF a ha).1 z
  · exact (J.tr a z).2 (.inr ha)
/-- x = e, x a slot that owns -/
theorem sd_own {i : Nat} {x : Str} {kd : Kd} {m : M PyData} (hN : X.N.Nodup) (hi : X.N[i]? = some x) (hx : Loc X.env.scope x) (hk : ks[i]? = some kd) (hne : kd ≠ .frz) (hp : psOk ps i = true) (he : FD X ks ps kd e m) (hs : swapsWith e (some (.Name x pos')) pos.line X.env = pure false := by rfl)
    (hf : X.fn x = true ∨ X.env.scope.names.lookup x = some .local := by first | exact .inl rfl | exact .inr rfl | assumption) : SD X ks ps rk (.Assign [.Name x pos'] e pos) (sAsg m (gNm i)) := PS.imp (ps_set hN hi hx he hs hf) fun D σ H q => by
  obtain ⟨G, F, env, out, I, hm, q⟩ := q
  obtain ⟨d, e1, e2, h1, h2, rfl⟩ := sAsg_some hm
  cases h2
  refine ⟨G, F, env, d, e1, I, h1, fun v F1 H1 Fr S1 I1 o hn hF => q _ (F1.set i Fr) H1 ?_ (I1.setOwn hk hne hp hn (fun a ha => (hF a ha).1) o)⟩
  refine ⟨S1.keep, S1.dom, S1.tup, S1.frz, fun a ha => ?_⟩
  rcases mem_set ha with h | ⟨j, Fj, hj, e, m⟩
  · exact (hF a h).2
  · exact S1.new a (mem_flat.mpr ⟨j, Fj, e, m⟩)
theorem fresh_own {K : PySem.W.Frag} {G : Addr → Prop} {F : List (List Addr)} {σ : L2.St} {H : Hp} {env : Ev} {p : Addr} {u : HO} (I : EI K ks ps G F σ H env) (hp : H p = none) : EI K ks ps (fun a => G a ∨ a ∈ [p]) F σ (upd H p u) env :=
  I.moreG (same_upd hp) (fun a z => z.imp id fun z => by rw [List.mem_singleton.mp z]; exact hp) fun a z => by
    rcases z with z | z
    · exact (Stp.same (F := F) (same_upd (o := u) hp)).dom a (I.gt a z)
    · rw [List.mem_singleton.mp z, upd_same]; simp
theorem fresh_kp {G : Addr → Prop} {F : List (List Addr)} {H : Hp} {p : Addr} {u : HO} (hp : H p = none) : Kp (OO G F) H (OO (fun a => G a ∨ a ∈ [p]) F) (upd H p u) :=
  (Stp.same (F := F) (same_upd (o := u) hp)).kp2 fun a z => z.imp id fun z => .inr <| by rw [List.mem_singleton.mp z]; exact hp
/-- [a, b, ..] -/
theorem fd_lst {ma : M (List Opd)} (h : AoD X ks ps es ma) : FD X ks ps .l1 (.List es pos) (mLst ma) := PE.imp (pe_lst h) fun σ H Q q => by
  obtain ⟨G, F, env, d, env', I, hm, q⟩ := q
  obtain ⟨os, e1, h1, h2⟩ := bnd_some hm
  obtain ⟨h2, rfl⟩ := lft_some h2
  split at h2
  · cases h2
  · rename_i ds g
    split at h2
    · cases h2
      rename_i hl
      refine ⟨G, F, env, os, _, I, h1, fun vs F1 H1 S1 I1 r1 => ?_⟩
      have ra := HoldsA.vals r1 g
      have hlen := ra.length
      refine ⟨Nat.le_of_lt (small1000 (by omega)), fun p hp => ?_⟩
      refine q _ F1 _ [p] (S1.trans (.same (same_upd hp))) (fresh_own I1 hp) ⟨p, vs, ds, rfl, rfl, rfl, upd_same, RepA.kp (fresh_kp hp) ra⟩ (List.nodup_cons.mpr ⟨List.not_mem_nil, List.nodup_nil⟩) fun a ha => ?_
      rw [List.mem_singleton.mp ha]
      exact ⟨fun z => I1.gt p z hp, .inr (S1.back hp)⟩
    · cases h2
/-- list(x) -/
theorem fd_list {x : Str} {p : Pos} {m : M Opd} (hx : x = "list") (hg : Gl X x) (hm : X.mg x = none) (ha : RD X ks ps e m)
    (he : starEach [e] X.env = (false, eval e X.env) :: starEach [] X.env := by rfl) : FD X ks ps .l1 (.Call (.Name x p) [e] [] pos) (mCallB listD (mA m mA0)) := by
  subst hx
  refine PE.imp (pe_callTy call_list_of hg hm (by decide +kernel) (pa_cons ha pa_nil he) (by decide) (by decide) he) fun σ H Q q => ?_
  obtain ⟨G, F, env, d, env', I, hm, q⟩ := q
  obtain ⟨os, e1, h1, h2⟩ := bnd_some hm
  obtain ⟨o1, e2, h3, h4⟩ := bnd_some h1
  cases h4
  obtain ⟨rfl, ds, g1, g3, gi⟩ := rsN_some h2
  refine ⟨G, F, env, o1, _, I, h3, fun v F1 H1 S1 I1 r1 => ?_⟩
  have hd : ∃ d1, o1.get env' = some d1 ∧ ds = [d1] := by
    unfold getAll at g1
    split at g1
    · cases g1
    · rename_i d1 hd1
      unfold getAll at g1
      cases g1
      exact ⟨d1, hd1, rfl⟩
  obtain ⟨d1, hd1, rfl⟩ := hd
  have r := HoldsO.rep I1 r1 hd1
  have nown : o1.own = false := by
    have : (List.any [o1] Opd.own && !imm d) = false := by simpa using gi
    unfold listD at g3
    split at g3 <;> first | (cases g3; simpa [imm] using this) | cases g3
  rw [nown] at r
  have fin : ∀ {a : Addr} {vs : List V} {ds : List PyData}, RepA X.K H1 (OO G F1) ds vs → d = .list ds → ∀ p, H1 p = none → Q (.ref p) (upd H1 p (.lst vs)) := by
    rintro a vs ds ra rfl p hp
    refine q _ F1 _ [p] (S1.trans (.same (same_upd hp))) (fresh_own I1 hp) ⟨p, vs, ds, rfl, rfl, rfl, upd_same, RepA.kp (fresh_kp hp) ra⟩ (List.nodup_cons.mpr ⟨List.not_mem_nil, List.nodup_nil⟩) fun a ha => ?_
    rw [List.mem_singleton.mp ha]
    exact ⟨fun z => I1.gt p z hp, .inr (S1.back hp)⟩
  unfold listD at g3
  split at g3
  · rename_i hds
    cases g3; cases hds
    simp only [Rep] at r
    obtain ⟨a, vs, rfl, t1, a1⟩ := r
    exact ⟨a, vs, rfl, .inl t1.sq, fin (a := a) a1 rfl⟩
  · rename_i hds
    cases g3; cases hds
    simp only [Rep] at r
    obtain ⟨a, vs, rfl, t1, a1⟩ := r
    exact ⟨a, vs, rfl, .inr t1, fin (a := a) a1 rfl⟩
  · cases g3
/-- [.. for ..] -/
theorem fd_comp {elt tg it : Expr} {ifs : List Expr} {scope : Scope} {own : List (Str × Nat)} {mi : M (List PyData)} {g : St1} {t : M Bool} {m : M PyData} (hc : X.calm = true) (hN : X.N.Nodup) (hi : ID X ks ps tg it mi) (ok : BlkOk X.N X.env.scope scope own)
    (hg : ∀ (s : Shared) (H : Hp) (C : Addr) (cl : List (Str × Addr)) (fp : List Addr), GD (X.blk s H scope (compEnvC scope cl C X.env) fp) ks ps (own.map (·.2)) tg g)
    (ht : ∀ (s : Shared) (H : Hp) (C : Addr) (cl : List (Str × Addr)) (fp : List Addr), PTs (X.blk s H scope (compEnvC scope cl C X.env) fp) ifs (tT X.K ks ps t))
    (he : ∀ (s : Shared) (H : Hp) (C : Addr) (cl : List (Str × Addr)) (fp : List Addr), ED (X.blk s H scope (compEnvC scope cl C X.env) fp) ks ps elt m)
    (hp : frzAll ks ps (own.map (·.2)) = true)
    (hs : ∀ x, foldedSetIterable it X.env x = pure x := by intro _; rfl) : FD X ks ps .l1 (.ListComp elt [⟨tg, it, ifs, 0⟩] scope pos) (mComp mi g t m (own.map (·.2))) :=
  PE.imp (pe_lc hc hN hi ok hg ht he hs) fun σ H Q q => by
    obtain ⟨G, F, env, d, env', I, hm, q⟩ := q
    obtain ⟨ds, e1, ys, e2, h1, hl, h2, rfl, rfl⟩ := mComp_some hm
    obtain ⟨hk, hp⟩ := frzAll_k hp
    refine comp_read I h1 hl h2 hk hp fun D xs F' H' S J hD eD ra nO => ?_
    have eG : (fun a => G a ∨ a = D) = fun a => G a ∨ a ∈ [D] := by funext a; simp
    rw [eG] at J ra
    exact q _ F' H' [D] S J ⟨D, xs, ys, rfl, rfl, rfl, eD, ra⟩ (List.nodup_cons.mpr ⟨List.not_mem_nil, List.nodup_nil⟩) fun a ha => by
      rw [List.mem_singleton.mp ha]
      exact ⟨fun z => nO (.inl z), .inr hD⟩
/-- {} -/
theorem fd_dk0 : FD X ks ps .dk (.Dict [] [] pos) (ret (.dict [])) := PE.imp pe_dnewK fun σ H Q q => by
  obtain ⟨G, F, env, d, env', I, hm, q⟩ := q
  cases hm
  intro p hp
  refine q _ F _ [p] (.same (same_upd hp)) (fresh_own I hp) ⟨p, [], [], rfl, rfl, rfl, upd_same, rfl, by simp only [RepV, List.map_nil]⟩ (List.nodup_cons.mpr ⟨List.not_mem_nil, List.nodup_nil⟩) fun a ha => ?_
  rw [List.mem_singleton.mp ha]
  exact ⟨fun z => I.gt p z hp, .inr hp⟩
theorem fd_dt0 : FD X ks ps .dt (.Dict [] [] pos) (ret (.dict [])) := PE.imp pe_dnewT fun σ H Q q => by
  obtain ⟨G, F, env, d, env', I, hm, q⟩ := q
  cases hm
  intro p hp
  refine q _ F _ [p] (.same (same_upd hp)) (fresh_own I hp) ⟨p, [], [], rfl, rfl, rfl, upd_same, rfl, by simp only [RepV, List.map_nil]⟩ (List.nodup_cons.mpr ⟨List.not_mem_nil, List.nodup_nil⟩) fun a ha => ?_
  rw [List.mem_singleton.mp ha]
  exact ⟨fun z => I.gt p z hp, .inr hp⟩

/-! ### calls of defs -/
/-- what of a result hangs on nothing that may be changed -/
def immK : Kd → PyData → Bool
  | .frz, d => imm d
  | .l1, .list ds => immA ds
  | .l2, .list ds => ds.all fun d => match d with
    | .list es => immA es
    | _ => false
  | .dk, .dict kvs => immA (kvs.map (·.2))
  | .dt, .dict kvs => immA (kvs.map (·.2))
  | .src, _ => true
  | _, _ => false
theorem OwnAt.imm {K : PySem.W.Frag} {H : Hp} {O O' : Addr → Prop} {kd : Kd} {Fr : List Addr} {d : PyData} {v : V} (hi : immK kd d = true) (h : OwnAt K H O kd Fr d v) : OwnAt K H O' kd Fr d v := by
  cases kd with
  | frz => exact ⟨h.1, Rep.imm hi h.2⟩
  | l1 =>
    obtain ⟨a, xs, ds, rfl, rfl, e2, e3, r⟩ := h
    exact ⟨a, xs, ds, rfl, rfl, e2, e3, RepA.imm hi r⟩
  | l2 =>
    obtain ⟨a, bs, dss, rfl, rfl, e2, e3, el, r⟩ := h
    refine ⟨a, bs, dss, rfl, rfl, e2, e3, el, fun i b ds g1 g2 => ?_⟩
    obtain ⟨xs, q1, q2⟩ := r i b ds g1 g2
    refine ⟨xs, q1, RepA.imm ?_ q2⟩
    have hm : PyData.list ds ∈ List.map PyData.list dss := List.mem_map.mpr ⟨ds, List.mem_of_getElem? g2, rfl⟩
    have := List.all_eq_true.mp hi _ hm
    simpa using this
  | dk =>
    obtain ⟨a, kvs, l, rfl, rfl, e2, e3, e4, r⟩ := h
    exact ⟨a, kvs, l, rfl, rfl, e2, e3, e4, RepV_iff.mpr (RepA.imm hi (RepV_iff.mp r))⟩
  | dt =>
    obtain ⟨a, kvs, l, rfl, rfl, e2, e3, e4, r⟩ := h
    exact ⟨a, kvs, l, rfl, rfl, e2, e3, e4, RepV_iff.mpr (RepA.imm hi (RepV_iff.mp r))⟩
  | src => exact h
theorem ifownK {K : PySem.W.Frag} {H : Hp} {O Fp : Addr → Prop} {b : Bool} {kd : Kd} {Fr : List Addr} {d : PyData} {v : V} (hi : ¬ (b && !immK kd d) = true) (h : OwnAt K H (fun a => (if b then fun _ => False else O) a ∨ Fp a) kd Fr d v) : OwnAt K H (fun a => O a ∨ Fp a) kd Fr d v := by
  cases b with
  | false => exact h
  | true => exact OwnAt.imm (by simpa using hi) h
def rsK (rk : Kd) (g : List PyData → Option PyData) (os : List Opd) : M PyData := fun e => match getAll os e with
  | none => none
  | some ds => match g ds with
    | none => none
    | some d => if os.any Opd.own && !immK rk d then none else some (d, e)
theorem rsK_some {g : List PyData → Option PyData} {os : List Opd} {e e2 : Ev} {r : PyData} (h : rsK rk g os e = some (r, e2)) : e2 = e ∧ ∃ ds, getAll os e = some ds ∧ g ds = some r ∧ ¬ (os.any Opd.own && !immK rk r) = true := by
  unfold rsK at h
  split at h
  · cases h
  · rename_i ds h1
    split at h
    · cases h
    · rename_i d h2
      split at h
      · cases h
      · cases h
        exact ⟨rfl, ds, h1, h2, by assumption⟩
/-- a def's call: the arguments' data, what comes -/
def mCall (rk : Kd) (n : Nat) (mf : List PyData → Option (PyData × List PyData)) (ma : M (List Opd)) : M PyData := bnd ma fun os => rsK rk (fun ds => if ds.length = n then (mf ds).map (·.1) else none) os
def spF (K : PySem.W.Frag) (n : Nat) (rk : Kd) (g : List PyData → Option PyData) : Sp := fun vs H Q _ => vs.length = n ∧ ∃ O ds d, (∀ p, H p = none → ¬ O p) ∧ RepA K H O ds vs ∧ g ds = some d ∧
  ∀ v H' Fr, Same H H' → OwnAt K H' (fun a => O a ∨ a ∈ Fr) rk Fr d v → Fr.Nodup → (∀ a ∈ Fr, H a = none ∧ H' a ≠ none) → Q v H'
theorem noF_rep {n : Nat} {a : Addr} : a ∉ (List.replicate n ([] : List Addr)).flatten := fun z => by
  obtain ⟨l, h1, h2⟩ := List.mem_flatten.mp z
  rw [(List.mem_replicate.mp h1).2] at h2
  cases h2
theorem frz_EI {K : PySem.W.Frag} {O : Addr → Prop} {H : Hp} {ds : List PyData} {vs : List V} {n : Nat} (fr : ∀ p, H p = none → ¬ O p) (h : RepA K H O ds vs) (hn : ds.length = n) : EI K (List.replicate n .frz) [] O (List.replicate n []) (vs.map some) H (ds.map some) := by
  have hl := h.length
  have noF : ∀ {a : Addr}, a ∉ (List.replicate n ([] : List Addr)).flatten := fun {a} z => by
    obtain ⟨l, h1, h2⟩ := List.mem_flatten.mp z
    rw [(List.mem_replicate.mp h1).2] at h2
    cases h2
  refine ⟨by simp, by simp [hn], by simp; omega, ⟨fun i Fi e => ?_, fun i j Fi Fj a e1 e2 m1 m2 => ?_⟩, fun a ha => absurd ha noF, fun a ha => fun z => fr a z ha, fun i d kd h1 h2 => ?_, (fun p hp => nomatch hp), fun i h => ?_⟩
  · rw [List.getElem?_replicate] at e
    split at e
    · cases e; exact List.nodup_nil
    · cases e
  · rw [List.getElem?_replicate] at e1
    split at e1
    · cases e1; cases m1
    · cases e1
  · rw [List.getElem?_replicate] at h2
    split at h2
    · cases h2
      rw [List.getElem?_map] at h1
      obtain ⟨d', e1, e2⟩ := Option.map_eq_some_iff.mp h1
      cases e2
      obtain ⟨x, e3, r⟩ := h.get e1
      refine ⟨x, [], by rw [List.getElem?_map, e3]; rfl, by rw [List.getElem?_replicate, if_pos (by assumption)], rfl, Rep.kp (Kp.less fun a z => z.elim id fun z => absurd z noF) r⟩
    · cases h2
  · rw [List.getElem?_replicate] at h ⊢
    split at h
    · rw [if_pos (by assumption)]
    · cases h
theorem frz_flat {n : Nat} {K : PySem.W.Frag} {G : Addr → Prop} {F : List (List Addr)} {σ : L2.St} {H : Hp} {env : Ev} (J : EI K (List.replicate n .frz) ps G F σ H env) {a : Addr} : a ∉ F.flatten := fun z => by
  obtain ⟨i, Fi, e, m⟩ := mem_flat.mp z
  have hi : i < n := by have := (List.getElem?_eq_some_iff.mp e).1; have l := J.lF; rw [List.length_replicate] at l; omega
  rw [J.fz i (by rw [List.getElem?_replicate, if_pos hi])] at e
  cases e
  cases m
/-- a def that owns no parameter, called -/
theorem fd_call {k n : Nat} {x : Str} {p : Pos} {mf : List PyData → Option (PyData × List PyData)} {ma : M (List Opd)} (F : FnD X.prog X.w X.K X.mg X.base k x (List.replicate n .frz) rk mf) (hr : Room k X.A) (hgd : X.A.guards = some []) (hg : Gl X x)
    (hx : Passes CX0 X E0) (ha : AoD X ks ps (e :: es) ma) (hdb : (x == ("__debug__" : Str)) = false := by decide) (he : starEach (e :: es) X.env = (false, eval e X.env) :: starEach es X.env := by rfl) (hpl : (backTo pos (starEach es X.env)).any (·.1) = false := by rfl) :
    FD X ks ps rk (.Call (.Name x p) (e :: es) [] pos) (mCall rk n mf ma) := by
  obtain ⟨f, fd, ps', F1, hm, hk, hb⟩ := F
  have F2 : FnG X.prog X.w X.K X.mg X.base CX0 k f fd ps' (spF X.K n rk fun ds => if ds.length = n then (mf ds).map (·.1) else none) := F1.weak fun vs H Q E h => by
    obtain ⟨hl, O, ds, d, fr, ra, hd, q⟩ := h
    have hd : (if ds.length = n then Option.map (fun x => x.fst) (mf ds) else none) = some d := hd
    rw [if_pos (by rw [ra.length]; exact hl)] at hd
    obtain ⟨⟨d', outs⟩, h1, rfl⟩ := Option.map_eq_some_iff.mp hd
    refine ⟨by simpa using hl, O, _, ds, d', outs, frz_EI fr ra (by rw [ra.length]; exact hl), h1, fun v F' H' Fr S J o n hF => q v H' Fr (fun a u e => S.keep a u e noF_rep) (o.kp (Kp.less fun a z => .inl z) fun a _ ob e => e) n fun a ha => ⟨(hF a ha).2.resolve_left noF_rep, J.gt a (.inr ha)⟩⟩
  refine PE.imp (pg_call F2 hr hgd hg hm hk hb hx ha hdb he hpl) fun σ H Q q => ?_
  obtain ⟨G, F, env, d, env', I, hm', q⟩ := q
  obtain ⟨os, e1, h1, h2⟩ := bnd_some hm'
  obtain ⟨rfl, ds, g1, g3, gi⟩ := rsK_some h2
  refine ⟨G, F, env, os, env', I, h1, fun vs F1 H1 S1 I1 r1 => ?_⟩
  have ra := HoldsA.rep I1 r1 g1
  have hlen : vs.length = n := by
    have g3' : (if ds.length = n then Option.map (fun x => x.fst) (mf ds) else none) = some d := g3
    split at g3'
    · rw [← ra.length]; assumption
    · cases g3'
  refine ⟨hlen, _, ds, d, fresh_if I1, ra, g3, fun w H3 Fr s3 o3 n3 hF => ?_⟩
  refine q w F1 H3 Fr (S1.trans (.same s3)) (I1.moreG s3 (fun a z => z.imp id fun z => (hF a z).1) fun a z => z.elim (fun z => (Stp.same (F := F1) s3).dom a (I1.gt a z)) fun z => (hF a z).2) ?_ n3 fun a ha => ⟨fun z => I1.gt a z (hF a ha).1, .inr (S1.back (hF a ha).1)⟩
  refine (ifownK gi o3).kp (Kp.less fun a z => ?_) fun a _ ob e => e
  rcases z with (z | z) | z
  · exact .inl (.inl z)
  · exact .inr z
  · exact .inl (.inr z)
theorem ed_call {k n : Nat} {x : Str} {p : Pos} {mf : List PyData → Option (PyData × List PyData)} {ma : M (List Opd)} (F : FnD X.prog X.w X.K X.mg X.base k x (List.replicate n .frz) rk mf) (hr : Room k X.A) (hgd : X.A.guards = some []) (hg : Gl X x)
    (hx : Passes CX0 X E0) (ha : AoD X ks ps (e :: es) ma) (hdb : (x == ("__debug__" : Str)) = false := by decide) (he : starEach (e :: es) X.env = (false, eval e X.env) :: starEach es X.env := by rfl) (hpl : (backTo pos (starEach es X.env)).any (·.1) = false := by rfl) :
    ED X ks ps (.Call (.Name x p) (e :: es) [] pos) (mCall rk n mf ma) := ed_own (fd_call F hr hgd hg hx ha hdb he hpl)
/-- f(x, e, ..), x a slot that owns, which the def changes; n further arguments -/
def noSlot (i : Nat) : List Opd → Bool
  | [] => true
  | .slot l :: r => l != i && noSlot i r
  | .val _ :: r => noSlot i r
def mCallS (rk kd : Kd) (mf : List PyData → Option (PyData × List PyData)) (i n : Nat) (ma : M (List Opd)) : M PyData := fun e => match e[i]? with
  | some (some _) => match ma e with
    | none => none
    | some (os, e1) => match e1[i]? with
      | some (some s) => match getAll os e1 with
        | none => none
        | some ds => if ds.length = n ∧ noSlot i os = true then match mf (s :: ds) with
          | some (d, y :: _) => if os.any Opd.own && !(immK rk d && decide (kd = .src)) then none else some (d, e1.set i (some y))
          | _ => none
          else none
      | _ => none
  | _ => none
theorem mCallS_some {kd : Kd} {mf : List PyData → Option (PyData × List PyData)} {i n : Nat} {ma : M (List Opd)} {e e' : Ev} {d : PyData} (h : mCallS rk kd mf i n ma e = some (d, e')) :
    ∃ s0 os e1 s ds y outs, e[i]? = some (some s0) ∧ ma e = some (os, e1) ∧ e1[i]? = some (some s) ∧ getAll os e1 = some ds ∧ ds.length = n ∧ noSlot i os = true ∧ mf (s :: ds) = some (d, y :: outs) ∧ (os.any Opd.own = true → immK rk d = true ∧ kd = .src) ∧ e' = e1.set i (some y) := by
  unfold mCallS at h
  split at h
  · rename_i s0 h0
    split at h
    · cases h
    · rename_i os e1 h1
      split at h
      · rename_i s h2
        split at h
        · cases h
        · rename_i ds h3
          split at h
          · rename_i h4
            split at h
            · rename_i d' y outs h5
              split at h
              · cases h
              · rename_i h6
                cases h
                refine ⟨s0, os, e1, s, ds, y, outs, h0, h1, h2, h3, h4.1, h4.2, h5, fun z => ?_, rfl⟩
                rw [z] at h6
                simpa using h6
            · cases h
          · cases h
      · cases h
  · cases h
theorem HoldsA.apart {K : PySem.W.Frag} {G P : Addr → Prop} {F : List (List Addr)} {σ : L2.St} {H : Hp} {env : Ev} {i : Nat} {Fi : List Addr} (I : EI K ks ps G F σ H env) (hF : F[i]? = some Fi) (hP : ∀ a, P a → a ∈ Fi) : ∀ {os : List Opd} {vs : List V} {ds : List PyData}, HoldsA K ks G F σ H os vs → getAll os env = some ds → noSlot i os = true →
    RepA K H P ds vs
  | [], _, _, h, e, _ => by cases e; simp only [RepA]; exact h
  | .val d :: r, _, ds, h, e, n => by
    obtain ⟨x, t, rfl, h1, h2⟩ := h
    unfold getAll Opd.get at e
    dsimp only at e
    split at e
    · cases e
    · rename_i ds' g2
      cases e
      exact .cons (Rep.kp (Kp.less fun a z => .inr (mem_flat.mpr ⟨i, Fi, hF, hP a z⟩)) h1) (HoldsA.apart I hF hP h2 g2 n)
  | .slot l :: r, _, ds, h, e, n => by
    obtain ⟨x, t, rfl, h1, h2⟩ := h
    unfold getAll at e
    split at e
    · cases e
    · rename_i d g1
      split at e
      · cases e
      · rename_i ds' g2
        cases e
        unfold noSlot at n
        rw [Bool.and_eq_true] at n
        refine .cons ?_ (HoldsA.apart I hF hP h2 g2 n.2)
        unfold Opd.get at g1
        dsimp only at g1
        split at g1
        · rename_i d' hd
          cases g1
          have hk : l < ks.length := by rw [← I.lE]; exact (List.getElem?_eq_some_iff.mp hd).1
          obtain ⟨v', Fl, e1, e2, o⟩ := I.sl l d _ hd (List.getElem?_eq_getElem hk)
          have h1' : σ[l]? = some (some x) := h1
          rw [h1'] at e1
          cases e1
          refine o.repP (fun a z => .inr (mem_flat.mpr ⟨i, Fi, hF, hP a z⟩)) fun a ha z => ?_
          have := I.nd.apart l i Fl Fi a e2 hF ha (hP a z)
          simp [this] at n
        · cases g1
/-- the parameters' state: the first owned, the rest not -/
theorem own_EI {K : PySem.W.Frag} {Gc : Addr → Prop} {H : Hp} {kd : Kd} {Fi : List Addr} {s : PyData} {v : V} {ds : List PyData} {vs : List V} {n : Nat} (hne : kd ≠ .frz) (hn : Fi.Nodup) (ht : ∀ a ∈ Fi, H a ≠ none ∧ ¬ Gc a) (hg : ∀ a, Gc a → H a ≠ none)
    (ho : OwnAt K H (OO Gc [Fi]) kd Fi s v) (h : RepA K H (OO Gc [Fi]) ds vs) (hl : ds.length = n) : EI K (kd :: List.replicate n .frz) [] Gc (Fi :: List.replicate n []) ((v :: vs).map some) H ((s :: ds).map some) := by
  have hl2 := h.length
  have fl : ∀ {a : Addr}, a ∈ (Fi :: List.replicate n ([] : List Addr)).flatten ↔ a ∈ Fi := fun {a} => by
    rw [List.flatten_cons, List.mem_append]
    exact ⟨fun z => z.elim id fun z => absurd z noF_rep, .inl⟩
  have less : ∀ a, OO Gc (Fi :: List.replicate n []) a → OO Gc [Fi] a := fun a z => z.imp id fun z => by simpa using fl.mp z
  refine ⟨by simp, by simp [hl], by simp; omega, ⟨fun i Fj e => ?_, fun i j F1 F2 a e1 e2 m1 m2 => ?_⟩, fun a ha => ht a (fl.mp ha), hg, fun i d kd' h1 h2 => ?_, (fun p hp => nomatch hp), fun i h => ?_⟩
  · cases i with
    | zero => simp at e; subst e; exact hn
    | succ i =>
      rw [List.getElem?_cons_succ, List.getElem?_replicate] at e
      split at e
      · cases e; exact List.nodup_nil
      · cases e
  · have z : ∀ {i : Nat} {Fj : List Addr}, (Fi :: List.replicate n [])[i]? = some Fj → a ∈ Fj → i = 0 := fun {i Fj} e m => by
      cases i with
      | zero => rfl
      | succ i =>
        rw [List.getElem?_cons_succ, List.getElem?_replicate] at e
        split at e
        · cases e; cases m
        · cases e
    rw [z e1 m1, z e2 m2]
  · cases i with
    | zero =>
      simp at h1 h2
      subst h1; subst h2
      exact ⟨v, Fi, rfl, rfl, ho.kp (Kp.less less) fun a _ ob e => e⟩
    | succ i =>
      rw [List.getElem?_cons_succ, List.getElem?_replicate] at h2
      split at h2
      · cases h2
        rw [List.map_cons, List.getElem?_cons_succ, List.getElem?_map] at h1
        obtain ⟨d', e1, e2⟩ := Option.map_eq_some_iff.mp h1
        cases e2
        obtain ⟨x, e3, r⟩ := h.get e1
        exact ⟨x, [], by rw [List.map_cons, List.getElem?_cons_succ, List.getElem?_map, e3]; rfl, by rw [List.getElem?_cons_succ, List.getElem?_replicate, if_pos (by assumption)], rfl, Rep.kp (Kp.less less) r⟩
      · cases h2
  · cases i with
    | zero => simp at h; exact absurd h hne
    | succ i =>
      rw [List.getElem?_cons_succ, List.getElem?_replicate] at h ⊢
      split at h
      · rw [if_pos (by assumption)]
      · cases h
theorem fd_callS {k n i : Nat} {x y : Str} {p py : Pos} {kd : Kd} {mf : List PyData → Option (PyData × List PyData)} {ma : M (List Opd)} (F : FnD X.prog X.w X.K X.mg X.base k x (kd :: List.replicate n .frz) rk mf) (hr : Room k X.A) (hgd : X.A.guards = some []) (hg : Gl X x)
    (hx : Passes CX0 X E0) (hne : kd ≠ .frz) (hN : X.N[i]? = some y) (hk : ks[i]? = some kd) (hv : Vis X.env.scope y) (ha : AoD X ks ps es ma) (hd : (y == ("__debug__" : Str)) = false := by decide) (hcd : (y == ("__classdict__" : Str)) = false := by decide) (hdb : (x == ("__debug__" : Str)) = false := by decide)
    (he : starEach (.Name y py :: es) X.env = (false, eval (.Name y py) X.env) :: starEach es X.env := by rfl) (hpl : (backTo pos (starEach es X.env)).any (·.1) = false := by rfl) :
    FD X ks ps rk (.Call (.Name x p) (.Name y py :: es) [] pos) (mCallS rk kd mf i n ma) := by
  obtain ⟨f, fd, ps', F1, hm, hkp, hb⟩ := F
  refine PE.imp (pg_call F1 hr hgd hg hm hkp hb hx (pa_cons (pe_var hN hv hd hcd) ha he) hdb he hpl) fun σ H Q q => ?_
  obtain ⟨G, F, env, d, env', I, hm', q⟩ := q
  obtain ⟨s0, os, e1, s, ds, yv, outs, h0, h1, h2, h3, h4, h5, h6, h7, rfl⟩ := mCallS_some hm'
  have hi0 : i < ks.length := (List.getElem?_eq_some_iff.mp hk).1
  obtain ⟨v, _, hσ, _, _⟩ := I.sl i s0 kd h0 hk
  refine ⟨v, hσ, G, F, env, os, e1, I, h1, fun vs F1 H1 S1 I1 r1 => ?_⟩
  obtain ⟨v', Fi, hσ', hF, ho⟩ := I1.sl i s kd h2 hk
  have ev : v' = v := by rw [hσ] at hσ'; exact (Option.some.inj (Option.some.inj hσ')).symm
  subst ev
  have inF : ∀ {a : Addr}, a ∈ Fi → a ∈ F1.flatten := fun {a} h => mem_flat.mpr ⟨i, Fi, hF, h⟩
  -- what the def is to keep apart from
  let Gc : Addr → Prop := fun a => os.any Opd.own = false ∧ OO G F1 a ∧ a ∉ Fi
  have lessC : ∀ a, OO Gc [Fi] a → OO G F1 a := fun a z => by
    rcases z with z | z
    · exact z.2.1
    · exact .inr (inF (by simpa using z))
  have ra : RepA X.K H1 (OO Gc [Fi]) ds vs := by
    cases hb2 : os.any Opd.own with
    | false =>
      have := HoldsA.rep I1 r1 h3
      rw [hb2] at this
      exact RepA.kp (Kp.less lessC) this
    | true =>
      refine HoldsA.apart I1 hF (fun a z => ?_) r1 h3 h5
      rcases z with z | z
      · have z1 : os.any Opd.own = false := z.1
        rw [hb2] at z1; cases z1
      · simpa using z
  have hlv : vs.length = n := by rw [← ra.length]; exact h4
  refine ⟨by simp [hlv], Gc, Fi :: List.replicate n [], s :: ds, d, yv :: outs, own_EI hne (I1.nd.own i Fi hF) (fun a ha => ⟨(I1.tr a (inF ha)).1, fun z => z.2.2 ha⟩) (fun a z => I1.oo a z.2.1) (ho.kp (Kp.less lessC) fun a _ ob e => e) ra h4, h6, fun w F' H' Fr S J o nF hFr => ?_⟩
  have fl : ∀ {a : Addr}, a ∈ (Fi :: List.replicate n ([] : List Addr)).flatten ↔ a ∈ Fi := fun {a} => by
    rw [List.flatten_cons, List.mem_append]
    exact ⟨fun z => z.elim id fun z => absurd z noF_rep, .inl⟩
  obtain ⟨v2, Fi2, e2, eF2, o2⟩ := J.sl 0 yv kd rfl rfl
  have e3 : v2 = v' := by simpa using e2.symm
  subst e3
  have inF' : ∀ {a : Addr}, a ∈ Fi2 → a ∈ F'.flatten := fun {a} h => mem_flat.mpr ⟨0, Fi2, eF2, h⟩
  have more : os.any Opd.own = false → ∀ a, OO (fun a => G a ∨ a ∈ Fr) (F1.set i Fi2) a → OO (fun a => Gc a ∨ a ∈ Fr) F' a := fun hb2 a z => by
    rcases z with (z | z) | z
    · exact .inl (.inl ⟨hb2, .inl z, fun m => (I1.tr a (inF m)).2 z⟩)
    · exact .inl (.inr z)
    · rcases mem_set z with m | ⟨j, Fj, hj, e, m⟩
      · exact .inr (inF' m)
      · exact .inl (.inl ⟨hb2, .inr (mem_flat.mpr ⟨j, Fj, e, m⟩), fun m2 => hj (I1.nd.apart j i Fj Fi a e hF m m2)⟩)
  have ho2 : OwnAt X.K H' (OO (fun a => G a ∨ a ∈ Fr) (F1.set i Fi2)) kd Fi2 yv v2 := by
    cases hb2 : os.any Opd.own with
    | false => exact o2.kp (Kp.less (more hb2)) fun a _ ob e => e
    | true =>
      have := (h7 hb2).2
      subst this
      exact o2
  have newG : ∀ a ∈ Fi2, ¬ (G a ∨ a ∈ Fr) := fun a ha z => by
    rcases z with z | z
    · rcases S.new a (inF' ha) with y | y
      · exact (I1.tr a (inF (fl.mp y))).2 z
      · exact I1.gt a z y
    · exact (J.tr a (inF' ha)).2 (.inr z)
  obtain ⟨I2, S2⟩ := I1.swap2 (G' := fun a => G a ∨ a ∈ Fr) (Fi' := Fi2) (d := yv) hF hk hne hσ (fun a u e n => S.keep a u e fun z => n (fl.mp z)) S.dom S.tup S.frz (J.nd.own 0 Fi2 eF2) (fun a ha => ⟨(S.new a (inF' ha)).imp fl.mp id, (J.tr a (inF' ha)).1, newG a ha⟩)
    (fun a z => z.imp id fun z => (hFr a z).2.imp fl.mp id) (fun a z => z.elim (fun z => S.dom a (I1.gt a z)) fun z => J.gt a (.inr z)) ho2
  refine q w _ H' Fr (S1.trans S2) I2 ?_ nF fun a ha => ⟨fun z => (hFr a ha).2.elim (fun m => (I1.tr a (inF (fl.mp m))).2 z) (I1.gt a z), S1.nw ((hFr a ha).2.imp (fun m => inF (fl.mp m)) id)⟩
  cases hb2 : os.any Opd.own with
  | false => exact o.kp (Kp.less (more hb2)) fun a _ ob e => e
  | true => exact OwnAt.imm (h7 hb2).1 o
theorem ed_callS {k n i : Nat} {x y : Str} {p py : Pos} {kd : Kd} {mf : List PyData → Option (PyData × List PyData)} {ma : M (List Opd)} (F : FnD X.prog X.w X.K X.mg X.base k x (kd :: List.replicate n .frz) rk mf) (hr : Room k X.A) (hgd : X.A.guards = some []) (hg : Gl X x)
    (hx : Passes CX0 X E0) (hne : kd ≠ .frz) (hN : X.N[i]? = some y) (hk : ks[i]? = some kd) (hv : Vis X.env.scope y) (ha : AoD X ks ps es ma) (hd : (y == ("__debug__" : Str)) = false := by decide) (hcd : (y == ("__classdict__" : Str)) = false := by decide) (hdb : (x == ("__debug__" : Str)) = false := by decide)
    (he : starEach (.Name y py :: es) X.env = (false, eval (.Name y py) X.env) :: starEach es X.env := by rfl) (hpl : (backTo pos (starEach es X.env)).any (·.1) = false := by rfl) :
    ED X ks ps (.Call (.Name x p) (.Name y py :: es) [] pos) (mCallS rk kd mf i n ma) := ed_own (fd_callS F hr hgd hg hx hne hN hk hv ha hd hcd hdb he hpl)

/-! ### lists of one's own, changed -/
theorem EI.putL {K : PySem.W.Frag} {G : Addr → Prop} {F : List (List Addr)} {σ : L2.St} {H : Hp} {env : Ev} {i : Nat} {ds : List PyData} (I : EI K ks ps G F σ H env) (h : env[i]? = some (some (.list ds))) (hk : ks[i]? = some .l1) :
    ∃ a xs, σ[i]? = some (some (.ref a)) ∧ H a = some (.lst xs) ∧ RepA K H (OO G F) ds xs ∧ ∀ ds' xs', RepA K H (OO G F) ds' xs' → EI K ks ps G F σ (upd H a (.lst xs')) (env.set i (some (.list ds'))) ∧ Stp F H F (upd H a (.lst xs')) ∧ Kp (OO G F) H (OO G F) (upd H a (.lst xs')) := by
  obtain ⟨v, Fi, hσ, hF, o⟩ := I.sl i _ _ h hk
  obtain ⟨a, xs, ds0, rfl, e, rfl, eH, r⟩ := o
  cases e
  have inF : a ∈ F.flatten := mem_flat.mpr ⟨i, [a], hF, List.mem_singleton.mpr rfl⟩
  refine ⟨a, xs, hσ, eH, r, fun ds' xs' r' => ?_⟩
  have kp : Kp (OO G F) H (OO G F) (upd H a (.lst xs')) := Kp.put (.inr inF) eH
  have eF : F.set i [a] = F := by
    refine List.ext_getElem? fun j => ?_
    rw [List.getElem?_set]
    by_cases hj : i = j
    · subst hj
      rw [if_pos rfl, hF, if_pos (List.getElem?_eq_some_iff.mp hF).1]
    · rw [if_neg hj]
  have := I.swap (H' := upd H a (.lst xs')) (Fi' := [a]) (d := .list ds') hF hk (by decide) hσ (fun b u e n => by rw [upd_ne (fun z => n (by rw [z]; exact List.mem_singleton.mpr rfl))]; exact e) (fun b e => by
      by_cases hb : b = a
      · subst hb; rw [upd_same]; simp
      · rw [upd_ne hb]; exact e) kp.tup kp.frz (List.nodup_cons.mpr ⟨List.not_mem_nil, List.nodup_nil⟩) (fun b hb => ⟨.inl hb, by rw [List.mem_singleton.mp hb, upd_same]; simp⟩)
    (by rw [eF]; exact ⟨a, xs', ds', rfl, rfl, rfl, upd_same, RepA.kp kp r'⟩)
  rw [eF] at this
  exact ⟨this.1, this.2, kp⟩
def lstAt (i : Nat) (e : Ev) : Option (List PyData) := match e[i]? with
  | some (some (.list ds)) => some ds
  | _ => none
theorem lstAt_some {i : Nat} {e : Ev} {ds : List PyData} (h : lstAt i e = some ds) : e[i]? = some (some (.list ds)) := by
  unfold lstAt at h
  split at h
  · cases h; assumption
  · cases h
/-- x.append(e) -/
def mApp (i : Nat) (m : M PyData) : M PyData := fun e => match lstAt i e with
  | none => none
  | some _ => match m e with
    | none => none
    | some (y, e1) => match lstAt i e1 with
      | none => none
      | some ds => if ds.length ≤ 1000000 then some (.none, e1.set i (some (.list (ds ++ [y])))) else none
theorem ed_append {i : Nat} {x : Str} {m : M PyData} {apos : Pos} (hN : X.N[i]? = some x) (hk : ks[i]? = some .l1) (he : ED X ks ps e m) (hv : Vis X.env.scope x := by first | exact Or.inl rfl | exact Or.inr (Or.inl rfl) | exact Or.inr (Or.inr rfl)) (hd : (x == ("__debug__" : Str)) = false := by decide)
    (hcd : (x == ("__classdict__" : Str)) = false := by decide) (hs : starEach [e] X.env = (false, eval e X.env) :: starEach [] X.env := by rfl)
    (hfew : ((backTo pos (starEach [e] X.env)).all (fun x => !x.1) && (backToKw pos (keywordEach [] X.env)).all (fun x => x.1.isSome) && decide ([e].length + ([] : List Keyword).length + (if ([] : List Keyword).isEmpty then 0 else 1) < 30)) = true := by rfl)
    (hline : (apos.endLine == pos.line) = true := by rfl) (hbase : attributeBase (.Name x pos') "append" X.env (eval (.Name x pos') X.env) = eval (.Name x pos') X.env := by rfl) : ED X ks ps (.Call (.Attribute (.Name x pos') "append" apos) [e] [] pos) (mApp i m) :=
  PE.imp (pe_bm PySem.F.plainAttrs_list PySem.F.slot_list_append PySem.F.type_list_append mt_append (pe_var hN hv hd hcd) (pa_cons he pa_nil hs) hbase hfew hline hs) fun σ H Q q => by
    obtain ⟨G, F, env, d, env', I, hm, q⟩ := q
    unfold mApp at hm
    split at hm
    · cases hm
    · rename_i ds0 h0
      split at hm
      · cases hm
      · rename_i y e1 h1
        split at hm
        · cases hm
        · rename_i ds h2
          split at hm
          · cases hm
            rename_i hl
            obtain ⟨a, xs, hσ, eH, r, _⟩ := I.putL (lstAt_some h0) hk
            refine ⟨_, hσ, .inl ⟨rfl, xs, .inl (.inl eH)⟩, G, F, env, y, e1, I, h1, fun w F1 H1 S1 I1 r1 => ?_⟩
            obtain ⟨a', xs', hσ', eH', r', put⟩ := I1.putL (lstAt_some h2) hk
            have ea : a' = a := by rw [hσ] at hσ'; cases hσ'; rfl
            subst ea
            obtain ⟨J, S, kp⟩ := put (ds ++ [y]) (xs' ++ [w]) (r'.append (.cons r1 .nil))
            refine ⟨a', xs', w, rfl, rfl, eH', Nat.lt_of_le_of_lt (by rw [← r'.length]; exact hl) (by rw [sizeLine_eq]; decide), q .non F1 _ (S1.trans S) J rep_non⟩
          · cases hm
end
end DL

/-! DLH: the law's source. -/
namespace DL
open PySem PySem.Spec PyProof.Rows L2
section
variable {rk : Kd} {X : Cx} {ks : List Kd} {ps : List (Nat × V)} {a b c e o : Expr} {es : List Expr} {pos pos' : Pos}

/-- what a slot owns is given away whole -/
theorem EI.giveO {K : PySem.W.Frag} {G : Addr → Prop} {F : List (List Addr)} {σ : L2.St} {H : Hp} {env : Ev} {i : Nat} {kd : Kd} {d : PyData} (I : EI K ks ps G F σ H env) (h1 : env[i]? = some (some d)) (hk : ks[i]? = some kd) :
    ∃ v Fi, σ[i]? = some (some v) ∧ F[i]? = some Fi ∧ EI K ks ps (fun a => G a ∨ a ∈ Fi) (F.set i []) σ H (env.set i none) ∧ OwnAt K H (OO (fun a => G a ∨ a ∈ Fi) (F.set i [])) kd Fi d v := by
  have hi : i < ks.length := (List.getElem?_eq_some_iff.mp hk).1
  obtain ⟨v, Fi, e1, e2, o⟩ := I.sl i d _ h1 hk
  have inF : ∀ {a : Addr}, a ∈ Fi → a ∈ F.flatten := fun {a} h => mem_flat.mpr ⟨i, Fi, e2, h⟩
  have less : ∀ a, OO (fun a => G a ∨ a ∈ Fi) (F.set i []) a → OO G F a := fun a z => by
    rcases z with (z | z) | z
    · exact .inl z
    · exact .inr (inF z)
    · rcases mem_set z with h | ⟨j, Fj, hj, e, m⟩
      · cases h
      · exact .inr (mem_flat.mpr ⟨j, Fj, e, m⟩)
  refine ⟨v, Fi, e1, e2, ⟨by rw [List.length_set]; exact I.lF, by rw [List.length_set]; exact I.lE, I.lS, I.nd.set List.nodup_nil (fun a ha => nomatch ha), fun a ha => ?_, fun a z => z.elim (I.gt a) fun z => (I.tr a (inF z)).1, fun j d' kd' h3 h4 => ?_, I.pn, fun j h => ?_⟩, o.kp (Kp.less less) fun a _ ob e => e⟩
  · rcases mem_set ha with h | ⟨j, Fj, hj, e, m⟩
    · cases h
    · have t := I.tr a (mem_flat.mpr ⟨j, Fj, e, m⟩)
      exact ⟨t.1, fun z => z.elim t.2 fun z => hj (I.nd.apart j i Fj Fi a e e2 m z)⟩
  · by_cases hj : j = i
    · subst hj
      rw [List.getElem?_set_self (by rw [I.lE]; exact hi)] at h3
      exact nomatch (Option.some.inj h3)
    · rw [List.getElem?_set_ne (Ne.symm hj)] at h3
      obtain ⟨w, Fj, g1, g2, o'⟩ := I.sl j d' kd' h3 h4
      exact ⟨w, Fj, g1, by rw [List.getElem?_set_ne (Ne.symm hj)]; exact g2, o'.kp (Kp.less less) fun a _ ob e => e⟩
  · by_cases hj : j = i
    · subst hj
      rw [List.getElem?_set_self (by rw [I.lF]; exact hi)]
    · rw [List.getElem?_set_ne (Ne.symm hj)]
      exact I.fz j h
theorem fd_take (i : Nat) {x : Str} {kd : Kd} (hN : X.N[i]? = some x := by rfl) (hk : ks[i]? = some kd := by rfl) (hv : Vis X.env.scope x := by first | exact Or.inl rfl | exact Or.inr (Or.inl rfl) | exact Or.inr (Or.inr rfl)) (hd : (x == ("__debug__" : Str)) = false := by decide)
    (hcd : (x == ("__classdict__" : Str)) = false := by decide) : FD X ks ps kd (.Name x pos) (mTake i) := PE.imp (pe_var hN hv hd hcd) fun σ H Q q => by
  obtain ⟨G, F, env, d, env', I, hm, q⟩ := q
  unfold mTake at hm
  split at hm
  · rename_i d' he
    cases hm
    obtain ⟨v, Fi, e1, e2, J, o⟩ := I.giveO he hk
    have inF : ∀ {a : Addr}, a ∈ Fi → a ∈ F.flatten := fun {a} h => mem_flat.mpr ⟨i, Fi, e2, h⟩
    exact ⟨v, e1, q v _ H Fi ⟨fun _ _ e _ => e, fun _ e => e, fun _ _ e => e, fun _ _ _ e => e, fun a ha => by
      rcases mem_set ha with h | ⟨j, Fj, hj, e, m⟩
      · cases h
      · exact .inl (mem_flat.mpr ⟨j, Fj, e, m⟩)⟩ J o (I.nd.own i Fi e2) fun a ha => ⟨(I.tr a (inF ha)).2, .inl (inF ha)⟩⟩
  · cases hm
/-- xs[::-1], new -/
theorem fd_revL {k : Nat} {p1 p2 p3 : Pos} {m : M Opd} (ha : RD X ks ps a m) : FD X ks ps .l1 (.Subscript a (.Slice none none (some (.UnaryOp .USub (.Constant (.int 1) k p1) p2)) p3) pos) (mUn revD m) :=
  PE.imp (pe_revL ha) fun σ H Q q => by
    obtain ⟨G, F, env, d, env', I, hm, q⟩ := q
    obtain ⟨ox, e1, h1, h2⟩ := bnd_some hm
    obtain ⟨rfl, dx, g1, g3, gi⟩ := rs1_some h2
    refine ⟨G, F, env, ox, env', I, h1, fun v F1 H1 S1 I1 r1 => ?_⟩
    have r := HoldsO.rep I1 r1 g1
    unfold revD at g3
    split at g3
    · cases g3
      simp only [Rep] at r
      obtain ⟨p, vs, rfl, t1, a1⟩ := r
      have nown : ox.own = false := by
        have z := gi
        simpa [imm] using z
      rw [nown] at a1
      refine ⟨p, vs, rfl, t1.sq, fun l hl => ?_⟩
      refine q _ F1 _ [l] (S1.trans (.same (same_upd hl))) (fresh_own I1 hl) ⟨l, _, _, rfl, rfl, rfl, upd_same, RepA.kp (fresh_kp hl) a1.reverse⟩ (List.nodup_cons.mpr ⟨List.not_mem_nil, List.nodup_nil⟩) fun a ha => ?_
      rw [List.mem_singleton.mp ha]
      exact ⟨fun z => I1.gt l z hl, .inr (S1.back hl)⟩
    · cases g3

/-! ### the source -/
def srcL (c : Addr) (left mixed turn : Int) : List (L2.Key × V) := [(Sum.inr "cells", .ref c), (Sum.inr "left", .int left), (Sum.inr "mixed", .int mixed), (Sum.inr "turn", .int turn)]
/-- what is read of a datum as a source -/
def srcOf : PyData → Option (List Int × Int × Int × Int)
  | .dict [(.str a, .list cs), (.str b, .int l), (.str c, .int m), (.str d, .int t)] => if a = "cells" ∧ b = "left" ∧ c = "mixed" ∧ d = "turn" then (intsOf cs).map fun ns => (ns, l, m, t) else none
  | _ => none
theorem srcOf_srcD (cs : List Int) (l m t : Int) : srcOf (srcD cs l m t) = some (cs, l, m, t) := by
  unfold srcOf srcD
  simp [intsOf_map]
theorem intsOf_eq : ∀ {ds : List PyData} {ns : List Int}, intsOf ds = some ns → ds = ns.map PyData.int
  | [], ns, h => by cases h; rfl
  | d :: ds, ns, h => by
    cases d <;> unfold intsOf at h <;> try cases h
    split at h
    · rename_i ns' g
      cases h
      rw [List.map_cons, ← intsOf_eq g]
    · cases h
theorem srcOf_eq {d : PyData} {cs : List Int} {l m t : Int} (h : srcOf d = some (cs, l, m, t)) : d = srcD cs l m t := by
  unfold srcOf at h
  split at h
  · split at h
    · rename_i z
      obtain ⟨ns, g, e⟩ := Option.map_eq_some_iff.mp h
      cases e
      obtain ⟨rfl, rfl, rfl, rfl⟩ := z
      unfold srcD
      rw [intsOf_eq g]
    · cases h
  · cases h
def srcAt (i : Nat) (e : Ev) : Option (List Int × Int × Int × Int) := match e[i]? with
  | some (some d) => srcOf d
  | _ => none
/-- so many turns at most, where the source's cells are taken one by one -/
def srcFuel (i : Nat) (e : Ev) : Nat := match srcAt i e with
  | some s => s.1.length + 1
  | none => 0
theorem srcAt_some {i : Nat} {e : Ev} {cs : List Int} {l m t : Int} (h : srcAt i e = some (cs, l, m, t)) : e[i]? = some (some (srcD cs l m t)) := by
  unfold srcAt at h
  split at h
  · rename_i d hd
    rw [hd, srcOf_eq h]
  · cases h
theorem EI.src {K : PySem.W.Frag} {G : Addr → Prop} {F : List (List Addr)} {σ : L2.St} {H : Hp} {env : Ev} {i : Nat} {cs : List Int} {l m t : Int} (I : EI K ks ps G F σ H env) (h : env[i]? = some (some (srcD cs l m t))) (hk : ks[i]? = some .src) :
    ∃ a c, σ[i]? = some (some (.ref a)) ∧ H a = some (.dK (srcL c l m t)) ∧ H c = some (.lst (cs.map V.int)) ∧
      (∀ cs', EI K ks ps G F σ (upd H c (.lst (cs'.map V.int))) (env.set i (some (srcD cs' l m t))) ∧ Stp F H F (upd H c (.lst (cs'.map V.int)))) ∧
      (∀ l' m' t', EI K ks ps G F σ (upd H a (.dK (srcL c l' m' t'))) (env.set i (some (srcD cs l' m' t'))) ∧ Stp F H F (upd H a (.dK (srcL c l' m' t')))) := by
  obtain ⟨v, Fi, hσ, hF, o⟩ := I.sl i _ _ h hk
  obtain ⟨a, c, cs0, l0, m0, t0, rfl, e, rfl, eH, eC⟩ := o
  have e' := congrArg srcOf e
  rw [srcOf_srcD, srcOf_srcD] at e'
  obtain ⟨rfl, rfl, rfl, rfl⟩ : cs = cs0 ∧ l = l0 ∧ m = m0 ∧ t = t0 := by simpa using e'
  have hac : a ≠ c := fun z => by rw [z, eC] at eH; cases eH
  have inF : ∀ {b : Addr}, b ∈ [a, c] → b ∈ F.flatten := fun {b} hb => mem_flat.mpr ⟨i, [a, c], hF, hb⟩
  have nd : [a, c].Nodup := by simp [hac]
  have eF : F.set i [a, c] = F := by
    refine List.ext_getElem? fun j => ?_
    rw [List.getElem?_set]
    by_cases hj : i = j
    · subst hj
      rw [if_pos rfl, hF, if_pos (List.getElem?_eq_some_iff.mp hF).1]
    · rw [if_neg hj]
  have go : ∀ (p : Addr) (u : HO) (d : PyData), p ∈ [a, c] → (∀ xs, H p ≠ some (.tup xs)) → (∀ o u, H p ≠ some (.frz o u)) → OwnAt K (upd H p u) (OO G F) .src [a, c] d (.ref a) → EI K ks ps G F σ (upd H p u) (env.set i (some d)) ∧ Stp F H F (upd H p u) := by
    intro p u d hp n1 n2 ho
    have ne : ∀ {b : Addr} {o : HO}, H b = some o → b ∉ [a, c] → upd H p u b = some o := fun {b o} e n => by rw [upd_ne (fun z => n (by rw [z]; exact hp))]; exact e
    have := I.swap (H' := upd H p u) (Fi' := [a, c]) (d := d) hF hk (by decide) hσ (fun b o e n => ne e n) (fun b e => by
      by_cases hb : b = p
      · subst hb; rw [upd_same]; simp
      · rw [upd_ne hb]; exact e) (fun b xs e => by
      by_cases hb : b = p
      · subst hb; exact absurd e (n1 xs)
      · rw [upd_ne hb]; exact e) (fun b o u' e => by
      by_cases hb : b = p
      · subst hb; exact absurd e (n2 o u')
      · rw [upd_ne hb]; exact e) nd (fun b hb => ⟨.inl hb, by
      by_cases hb' : b = p
      · subst hb'; rw [upd_same]; simp
      · rw [upd_ne hb']; exact (I.tr b (inF hb)).1⟩) (by rw [eF]; exact ho)
    rw [eF] at this
    exact this
  refine ⟨a, c, hσ, eH, eC, fun cs' => go c _ _ (by simp) (by rw [eC]; intro _ z; cases z) (by rw [eC]; intro _ _ z; cases z) ?_, fun l' m' t' => go a _ _ (by simp) (by rw [eH]; intro _ z; cases z) (by rw [eH]; intro _ _ z; cases z) ?_⟩
  · exact ⟨a, c, cs', l, m, t, rfl, rfl, rfl, by rw [upd_ne hac]; exact eH, upd_same⟩
  · exact ⟨a, c, cs, l', m', t', rfl, rfl, rfl, upd_same, by rw [upd_ne (Ne.symm hac)]; exact eC⟩

inductive SKey where | left | mixed | turn
def SKey.str : SKey → Str
  | .left => "left"
  | .mixed => "mixed"
  | .turn => "turn"
def SKey.get : SKey → List Int × Int × Int × Int → Int
  | .left, s => s.2.1
  | .mixed, s => s.2.2.1
  | .turn, s => s.2.2.2
def SKey.put : SKey → Int → List Int × Int × Int × Int → List Int × Int × Int × Int
  | .left, x, s => (s.1, x, s.2.2.1, s.2.2.2)
  | .mixed, x, s => (s.1, s.2.1, x, s.2.2.2)
  | .turn, x, s => (s.1, s.2.1, s.2.2.1, x)
def srcDt (s : List Int × Int × Int × Int) : PyData := srcD s.1 s.2.1 s.2.2.1 s.2.2.2
theorem SKey.val {c : Addr} {l m t : Int} (k : SKey) (cs : List Int) : valV (srcL c l m t) (Sum.inr k.str) = some (.int (k.get (cs, l, m, t))) := by
  cases k <;> rfl
theorem src_cells {c : Addr} {l m t : Int} : valV (srcL c l m t) (Sum.inr "cells") = some (.ref c) := rfl
theorem SKey.putK {c : Addr} {l m t x : Int} (k : SKey) (cs : List Int) : L2.putK (srcL c l m t) (Sum.inr k.str) (.int x) = srcL c (k.put x (cs, l, m, t)).2.1 (k.put x (cs, l, m, t)).2.2.1 (k.put x (cs, l, m, t)).2.2.2 := by
  cases k <;> rfl
/-- source['left'] -/
def mSrcGet (i : Nat) (k : SKey) : M PyData := fun e => match srcAt i e with
  | some s => some (.int (k.get s), e)
  | none => none
theorem ed_srcGet {i : Nat} {x : Str} {kc : Nat} {p1 p2 : Pos} (k : SKey) (hu : X.A.units + 1 < cLine) (hN : X.N[i]? = some x) (hk : ks[i]? = some .src) (hv : Vis X.env.scope x := by first | exact Or.inl rfl | exact Or.inr (Or.inl rfl) | exact Or.inr (Or.inr rfl))
    (hd : (x == ("__debug__" : Str)) = false := by decide) (hcd : (x == ("__classdict__" : Str)) = false := by decide) : ED X ks ps (.Subscript (.Name x p1) (.Constant (.str k.str) kc p2) pos) (mSrcGet i k) :=
  PE.imp (pe_dget hu (pe_var hN hv hd hcd) pe_str (by exact fun _ _ => rfl)) fun σ H Q q => by
    obtain ⟨G, F, env, d, env', I, hm, q⟩ := q
    unfold mSrcGet at hm
    split at hm
    · rename_i s hs
      cases hm
      obtain ⟨cs, l, m, t⟩ := s
      obtain ⟨a, c, hσ, eH, _, _, _⟩ := I.src (srcAt_some hs) hk
      exact ⟨_, hσ, a, _, rfl, .inl ⟨_, Sum.inr k.str, .inl eH, rfl, (k.val cs).symm⟩, q _ F H .refl I rep_int⟩
    · cases hm

/-- source['left'] = e -/
def sSrcPut (i : Nat) (k : SKey) (m : M PyData) : B := fun e => match m e with
  | some (.int x, e1) => match srcAt i e1 with
    | some s => some (.nx (e1.set i (some (srcDt (k.put x s)))))
    | none => none
  | _ => none
theorem sd_srcPut {i : Nat} {x : Str} {kc : Nat} {p1 p2 p3 : Pos} {m : M PyData} (k : SKey) (hu : X.A.units + 1 < cLine) (hN : X.N[i]? = some x) (hk : ks[i]? = some .src) (he : ED X ks ps e m) (hv : Vis X.env.scope x := by first | exact Or.inl rfl | exact Or.inr (Or.inl rfl) | exact Or.inr (Or.inr rfl))
    (hd : (x == ("__debug__" : Str)) = false := by decide) (hcd : (x == ("__classdict__" : Str)) = false := by decide) (hs : swapsWith e (some (.Subscript (.Name x p1) (.Constant (.str k.str) kc p2) p3)) pos.line X.env = pure false := by rfl) :
    SD X ks ps rk (.Assign [.Subscript (.Name x p1) (.Constant (.str k.str) kc p2) p3] e pos) (sSrcPut i k m) :=
  PS.imp (ps_dput hu (pe_var hN hv hd hcd) pe_str he hs) fun D σ H q => by
    obtain ⟨G, F, env, out, I, hm, q⟩ := q
    unfold sSrcPut at hm
    split at hm
    · rename_i y e1 h1
      split at hm
      · rename_i s hs2
        cases hm
        refine ⟨G, F, env, _, e1, I, h1, fun v F1 H1 S1 I1 r1 => ?_⟩
        obtain ⟨cs, l, m, t⟩ := s
        obtain ⟨a, c, hσ, eH, _, _, put⟩ := I1.src (srcAt_some hs2) hk
        obtain ⟨J, S⟩ := put (k.put y (cs, l, m, t)).2.1 (k.put y (cs, l, m, t)).2.2.1 (k.put y (cs, l, m, t)).2.2.2
        simp only [Rep] at r1
        subst r1
        refine ⟨_, hσ, a, _, rfl, .inl ⟨_, Sum.inr k.str, eH, rfl, by rw [sizeLine_eq]; exact (Nat.le_of_ble_eq_true rfl : 5 ≤ 16777216), rfl⟩, ?_⟩
        rw [k.putK cs]
        have ec : (k.put y (cs, l, m, t)).1 = cs := by cases k <;> rfl
        have e2 : srcDt (k.put y (cs, l, m, t)) = srcD cs (k.put y (cs, l, m, t)).2.1 (k.put y (cs, l, m, t)).2.2.1 (k.put y (cs, l, m, t)).2.2.2 := by unfold srcDt; rw [ec]
        rw [e2] at q
        exact q _ F1 _ (S1.trans S) J
      · cases hm
    · cases hm
/-- len(source['cells']) -/
def mSrcLen (i : Nat) : M PyData := fun e => match srcAt i e with
  | some s => some (.int (s.1.length : Int), e)
  | none => none
theorem ed_srcLen {i : Nat} {x : Str} {kc : Nat} {p1 p2 p3 p4 : Pos} (hu : X.A.units + 1 < cLine) (hg : Gl X "len") (hm : X.mg "len" = none) (hN : X.N[i]? = some x) (hk : ks[i]? = some .src) (hv : Vis X.env.scope x := by first | exact Or.inl rfl | exact Or.inr (Or.inl rfl) | exact Or.inr (Or.inr rfl))
    (hd : (x == ("__debug__" : Str)) = false := by decide) (hcd : (x == ("__classdict__" : Str)) = false := by decide)
    (he : starEach [.Subscript (.Name x p1) (.Constant (.str "cells") kc p2) p3] X.env = [(false, eval (.Subscript (.Name x p1) (.Constant (.str "cells") kc p2) p3) X.env)] := by rfl) :
    ED X ks ps (.Call (.Name "len" p4) [.Subscript (.Name x p1) (.Constant (.str "cells") kc p2) p3] [] pos) (mSrcLen i) :=
  PE.imp (pe_callB call_len hg hm boot_len (pa_cons (pe_dget hu (pe_var hN hv hd hcd) pe_str (by exact fun _ _ => rfl)) pa_nil he) (by decide) (by decide) he) fun σ H Q q => by
    obtain ⟨G, F, env, d, env', I, hm, q⟩ := q
    unfold mSrcLen at hm
    split at hm
    · rename_i s hs
      cases hm
      obtain ⟨cs, l, m, t⟩ := s
      obtain ⟨a, c, hσ, eH, eC, _, _⟩ := I.src (srcAt_some hs) hk
      refine ⟨_, hσ, a, _, rfl, .inl ⟨_, Sum.inr "cells", .inl eH, rfl, src_cells.symm⟩, _, _, rfl, .inl ⟨_, .inl (.inl eC), rfl⟩, ?_⟩
      rw [List.length_map]
      exact q _ F H .refl I rep_int
    · cases hm
/-- source['cells'].pop() -/
def mSrcPop (i : Nat) : M PyData := fun e => match srcAt i e with
  | some (cs, l, m, t) => match cs.getLast? with
    | some x => some (.int x, e.set i (some (srcD cs.dropLast l m t)))
    | none => none
  | none => none
theorem ed_srcPop {i : Nat} {x : Str} {kc : Nat} {p1 p2 p3 apos : Pos} (hu : X.A.units + 1 < cLine) (hN : X.N[i]? = some x) (hk : ks[i]? = some .src) (hv : Vis X.env.scope x := by first | exact Or.inl rfl | exact Or.inr (Or.inl rfl) | exact Or.inr (Or.inr rfl))
    (hd : (x == ("__debug__" : Str)) = false := by decide) (hcd : (x == ("__classdict__" : Str)) = false := by decide) (hline : (apos.endLine == pos.line) = true := by rfl)
    (hbase : attributeBase (.Subscript (.Name x p1) (.Constant (.str "cells") kc p2) p3) "pop" X.env (eval (.Subscript (.Name x p1) (.Constant (.str "cells") kc p2) p3) X.env) = eval (.Subscript (.Name x p1) (.Constant (.str "cells") kc p2) p3) X.env := by rfl) :
    ED X ks ps (.Call (.Attribute (.Subscript (.Name x p1) (.Constant (.str "cells") kc p2) p3) "pop" apos) [] [] pos) (mSrcPop i) :=
  PE.imp (pe_bm0 PySem.F.plainAttrs_list PySem.F.slot_list_pop PySem.F.type_list_pop mt_pop (pe_dget hu (pe_var hN hv hd hcd) pe_str (by exact fun _ _ => rfl)) hbase hline) fun σ H Q q => by
    obtain ⟨G, F, env, d, env', I, hm, q⟩ := q
    unfold mSrcPop at hm
    split at hm
    · rename_i cs l m t hs
      split at hm
      · rename_i y hy
        cases hm
        obtain ⟨a, c, hσ, eH, eC, put, _⟩ := I.src (srcAt_some hs) hk
        obtain ⟨J, S⟩ := put cs.dropLast
        rw [List.map_dropLast] at J S
        refine ⟨_, hσ, a, _, rfl, .inl ⟨_, Sum.inr "cells", .inl eH, rfl, src_cells.symm⟩, .inl ⟨rfl, _, .inl (.inl eC)⟩, c, _, .int y, rfl, rfl, eC, ?_, q _ F _ S J rep_int⟩
        rw [List.length_map, List.getElem?_map]
        rw [List.getLast?_eq_getElem?] at hy
        rw [hy]; rfl
      · cases hm
    · cases hm
/-- {'cells': .., 'left': .., 'mixed': .., 'turn': ..} -/
def mSrcNew (m0 m1 m2 m3 : M PyData) : M PyData := bnd m0 fun d0 => bnd m1 fun d1 => bnd m2 fun d2 => bnd m3 fun d3 => lft (match d0, d1, d2, d3 with
  | .list cs, .int l, .int m, .int t => (intsOf cs).map fun ns => srcD ns l m t
  | _, _, _, _ => none)
theorem fd_srcNew {m0 m1 m2 m3 : M PyData} {e0 e1 e2 e3 : Expr} {k0 k1 k2 k3 : Nat} {p0 p1 p2 p3 : Pos} (h0 : FD X ks ps .l1 e0 m0) (h1 : ED X ks ps e1 m1) (h2 : ED X ks ps e2 m2) (h3 : ED X ks ps e3 m3) :
    FD X ks ps .src (.Dict [some (.Constant (.str "cells") k0 p0), some (.Constant (.str "left") k1 p1), some (.Constant (.str "mixed") k2 p2), some (.Constant (.str "turn") k3 p3)] [e0, e1, e2, e3] pos) (mSrcNew m0 m1 m2 m3) :=
  PE.imp (pe_disp (pps_cons pe_str h0 (pps_cons pe_str h1 (pps_cons pe_str h2 (pps_cons pe_str h3 pps_nil)))) rfl rfl (fun z => nomatch z) (Nat.le_of_ble_eq_true rfl)) fun σ H Q q => by
    obtain ⟨G, F, env, d, env', I, hm, q⟩ := q
    obtain ⟨d0, v0, g0, hma⟩ := bnd_some hm
    obtain ⟨d1, v1, g1, hmb⟩ := bnd_some hma
    obtain ⟨d2, v2, g2, hmc⟩ := bnd_some hmb
    obtain ⟨d3, v3, g3, hmd⟩ := bnd_some hmc
    obtain ⟨hm2, ev⟩ := lft_some hmd
    subst ev
    split at hm2
    · rename_i cs l m t
      obtain ⟨ns, hns, hd⟩ := Option.map_eq_some_iff.mp hm2
      subst hd
      have hcs := intsOf_eq hns
      subst hcs
      intro p hp
      have I0 := fresh_own (u := .dK []) I hp
      refine ⟨_, _, _, _, _, I0, g0, fun w0 F0 H0 Fr S0 J0 o0 n0 hF0 => ?_⟩
      refine ⟨_, _, _, _, _, J0, g1, fun w1 F1 H1 S1 J1 r1 => ?_⟩
      refine ⟨_, _, _, _, _, J1, g2, fun w2 F2 H2 S2 J2 r2 => ?_⟩
      refine ⟨_, _, _, _, _, J2, g3, fun w3 F3 H3 S3 J3 r3 => ?_⟩
      obtain ⟨c, xs, ds, rfl, e, rfl, eC, ra⟩ := o0
      cases e
      simp only [Rep] at r1 r2 r3
      subst r1 r2 r3
      have hx := repA_ints ra
      subst hx
      have S03 := (S1.trans S2).trans S3
      have notp : p ∉ F.flatten := fun z => (I.tr p z).1 hp
      have eP0 : H0 p = some (.dK []) := S0.keep p _ upd_same notp
      have cne : c ≠ p := fun z => by rw [z] at eC; rw [eP0] at eC; cases eC
      have cF : c ∉ F0.flatten := fun z => (J0.tr c z).2 (.inr (by simp))
      have pF : p ∉ F0.flatten := fun z => (J0.tr p z).2 (.inl (.inr (by simp)))
      have eC3 : H3 c = some (.lst (ns.map V.int)) := S03.keep c _ eC cF
      have eP3 : H3 p = some (.dK []) := S03.keep p _ eP0 pF
      refine ⟨eP3, [(Sum.inr "cells", .ref c), (Sum.inr "left", .int l), (Sum.inr "mixed", .int m), (Sum.inr "turn", .int t)], rfl, (Nat.le_of_ble_eq_true rfl : 4 ≤ 15), ?_⟩
      have em : mergeK [] [(Sum.inr "cells", V.ref c), (Sum.inr "left", .int l), (Sum.inr "mixed", .int m), (Sum.inr "turn", .int t)] = srcL c l m t := rfl
      rw [em]
      have hFc := hF0 c (by simp)
      refine q (.ref p) F3 _ [p, c] (((Stp.same (same_upd (o := .dK []) hp)).trans (S0.trans S03)).put hp) ((J3.put (D := p) (o := .dK (srcL c l m t)) (.inl (.inr (by simp))) eP3).lessG fun a z => ?_) ⟨p, c, ns, l, m, t, rfl, rfl, rfl, upd_same, by rw [upd_ne cne]; exact eC3⟩ (by simp [Ne.symm cne]) fun a ha => ?_
      · rcases z with z | z
        · exact .inl (.inl z)
        · rcases List.mem_cons.mp z with z | z
          · exact .inl (.inr (by simp [z]))
          · exact .inr z
      · rcases List.mem_cons.mp ha with z | z
        · subst z
          exact ⟨fun z => I.gt a z hp, .inr hp⟩
        · have z := List.mem_singleton.mp z
          subst z
          exact ⟨fun z => hFc.1 (.inl z), hFc.2.imp id fun z => by rw [upd_ne cne] at z; exact z⟩
    · cases hm2
end
end DL

/-! DLI: a law's own head, for a def over data. -/
namespace DL
open PySem PySem.Spec PyProof.Rows L2

/-- what the law's def is asked: each script's data gives True -/
def Yes (n : Nat) (mf : List PyData → Option (PyData × List PyData)) : Prop := ∀ ns : List Int, ns.length ≤ n → (mf [.list (ns.map PyData.int)]).map (·.1) = some (.bool true)

theorem repA_mapInt {K : PySem.W.Frag} {H : Hp} {O : Addr → Prop} : ∀ ns : List Int, RepA K H O (ns.map PyData.int) (ns.map V.int)
  | [] => .nil
  | n :: ns => .cons rep_int (repA_mapInt ns)
theorem spD_yes {K : PySem.W.Frag} {n : Nat} {mf : List PyData → Option (PyData × List PyData)} (yes : Yes n mf) {H : Hp} {pa : Addr} {ns : List Int} (hn : ns.length ≤ n) (hl : LstAt K H (fun _ => False) pa (ns.map V.int)) : spD K [.frz] .frz mf [.ref pa] H (fun v _ => v = .bl true) fun _ _ _ => False := by
  have hy := yes ns hn
  obtain ⟨⟨d, outs⟩, h1, h2⟩ := Option.map_eq_some_iff.mp hy
  dsimp only at h2
  subst h2
  have h0 : ∀ a, ¬ OO (fun _ => False) [([] : List Addr)] a := fun a z => by
    rcases z with z | z
    · exact z
    · simp at z
  have I : EI K [.frz] [] (fun _ => False) [[]] ([V.ref pa].map some) H ([PyData.list (ns.map PyData.int)].map some) := by
    refine ⟨rfl, rfl, rfl, ⟨fun i Fi e => ?_, fun i j Fi Fj a e1 e2 m1 m2 => ?_⟩, fun a ha => ?_, fun a z => z.elim, fun i d kd e1 e2 => ?_, (fun p hp => nomatch hp), fun i e => ?_⟩
    · cases i with
      | zero => simp at e; subst e; exact List.nodup_nil
      | succ i => simp at e
    · cases i with
      | zero => simp at e1; subst e1; cases m1
      | succ i => simp at e1
    · simp at ha
    · cases i with
      | zero =>
        simp at e1 e2
        subst e1 e2
        refine ⟨.ref pa, [], rfl, rfl, rfl, ?_⟩
        simp only [Rep]
        exact ⟨pa, _, rfl, hl.kp (Kp.less fun a z => (h0 a z).elim), repA_mapInt ns⟩
      | succ i => simp at e1
    · cases i with
      | zero => rfl
      | succ i => simp at e
  refine ⟨rfl, fun _ => False, [[]], _, .bool true, outs, I, h1, fun v F' H' Fr _ _ o _ _ => ?_⟩
  have r := o.2
  simpa only [Rep] using r

theorem headG {P : Program} {w : World} {K : PySem.W.Frag} {mg mb : Str → Option Value} {k : Nat} {pa : Addr} {x : Str} {s₁ : Shared} {us : List Value} {ns : List Int} {mf : List PyData → Option (PyData × List PyData)} {f : Addr} {n : Nat}
    (inK : K.In s₁.heap) (nsM : s₁.heap.Ns mainGlobals mg) (nsB : s₁.heap.Ns builtinsNs mb) (bOk : ∀ y : Str, y ≠ "__name__" → mb y = bootBuiltins y) (free : s₁.heap.NoLimit) (bare : s₁.gens = #[])
    (hp : s₁.heap.get? pa = some { cls := .type "list", data := .seq us.toArray }) (intsA : IntsAre us ns) (hn : ns.length ≤ n) (hsz : ns.length ≤ sizeLine) (room : Room k callerA)
    (hf : mg x = some (.ref f)) (F : ∀ base : Heap, K.In base → base.Ns mainGlobals mg → FnD P w K mg base k x [.frz] .frz mf) (yes : Yes n mf) :
    codeAny (model P w) callerA (.call (.ref f) ⟨[.ref pa], []⟩) (fun r s' => r = .ok (.ret (.bool true)) ∧ OldK s₁.heap s'.heap ∧ s'.os = s₁.os ∧ AllBare s'.gens) s₁ := by
  have relV := vals_ints intsA
  have lenU := intsA.length
  have main : ∀ H : Hp, (∀ b, H b = none ∨ ∃ ob xs, H b = some (.frz ob (.lst xs))) → LstAt K H (fun _ => False) pa (ns.map V.int) → HOk P w H s₁.heap → (∀ b, H b ≠ none → b = pa) → (H pa ≠ none → K.lookup pa = none) →
      codeAny (model P w) callerA (.call (.ref f) ⟨[.ref pa], []⟩) (fun r s' => r = .ok (.ret (.bool true)) ∧ OldK s₁.heap s'.heap ∧ s'.os = s₁.os ∧ AllBare s'.gens) s₁ := by
    intro H onlyS hS okH atP notK
    have inBase : ∀ {b : Addr} {ob : Obj}, s₁.heap.get? b = some ob → H b = none → (hidT s₁.heap H).get? b = some ob := fun h1 h2 => hidT_get h1 h2
    have dictFree : ∀ {b : Addr} {ob : Obj} {es : Array DictEntry} {ep : Nat}, s₁.heap.get? b = some ob → ob.data = .dict es ep → H b = none := by
      intro b ob es ep h1 h2
      cases q : H b with
      | none => rfl
      | some u =>
        obtain rfl := atP b (by rw [q]; exact fun z => nomatch z)
        rw [hp] at h1
        cases h1
        have h3 : Data.seq us.toArray _ = Data.dict es ep := h2
        cases h3
    have nsKeep : ∀ {b : Addr} {m : Str → Option Value}, s₁.heap.Ns b m → (hidT s₁.heap H).Ns b m := by
      rintro b m ⟨ob, es, ep, h1, h2, h3⟩
      exact ⟨ob, es, ep, inBase h1 (dictFree h1 h2), h2, h3⟩
    have inKb : K.In (hidT s₁.heap H) := by
      intro b ob h1
      refine inBase (inK b ob h1) ?_
      cases q : H b with
      | none => rfl
      | some u =>
        obtain rfl := atP b (by rw [q]; exact fun z => nomatch z)
        rw [notK (by rw [q]; exact fun z => nomatch z)] at h1
        cases h1
    have theMod : Mod K mg (hidT s₁.heap H) := by
      refine ⟨inKb, nsKeep nsM, ⟨mb, nsKeep nsB, bOk⟩, ?_⟩
      obtain ⟨mc, h1, h2⟩ := free
      exact ⟨mc, nsKeep h1, h2⟩
    have env0 : Env0 P w K mg (hidT s₁.heap H) callerA [] s₁ H := ⟨rfl, theMod, fun b ob h1 => of_hidT h1, Nat.le_of_eq (hidT_size _ _), trivial, fun b hb => (nomatch hb), okH, .of_eq bare⟩
    obtain ⟨f', fd, qs, FG, hf', _, binds⟩ := F _ inKb (nsKeep nsM)
    rw [hf] at hf'
    cases hf'
    have spec := spD_yes (K := K) yes hn hS
    have l1 : [V.ref pa].length = qs.length := FG.len _ _ _ _ spec
    refine codeAny_mono (FG.run callerA [] s₁ H ⟨[.ref pa], []⟩ ([Value.ref pa] ++ []) [.ref pa] _ _ room rfl env0 (binds s₁ [Value.ref pa] inK (by simpa using l1)) (.cons rfl .nil) spec) fun r s' h => ?_
    rcases r with e | fl
    · exact (show False from h).elim
    · cases fl with
      | next => exact (show False from h).elim
      | brk => exact (show False from h).elim
      | cont => exact (show False from h).elim
      | ret u =>
        obtain ⟨v, H', sameOs, bare', un, okH', rv, e⟩ := h
        obtain rfl : v = .bl true := e
        obtain rfl : u = Value.bool true := rv
        refine ⟨rfl, OldK.of_keep fun b ob h1 => ?_, sameOs, bare'⟩
        cases q : H b with
        | none => exact un.keep b ob h1 q (fun z => nomatch z) (fun z => nomatch z)
        | some u =>
          rcases onlyS b with z | ⟨ob2, xs, z⟩
          · rw [q] at z; exact nomatch z
          · have z2 := un.frzs b ob2 _ z
            obtain ⟨g1, _⟩ := okH b _ z
            obtain ⟨g2, _⟩ := okH' b _ z2
            rw [h1] at g1
            cases g1
            exact g2
  cases hk : K.lookup pa with
  | some ob =>
    have h1 := inK pa ob hk
    rw [hp] at h1
    cases h1
    exact main (fun _ => none) (fun _ => .inl rfl) (.inr ⟨_, us.toArray, _, hk, rfl, rfl, rfl, by rw [List.size_toArray, lenU]; exact hsz, by simpa using relV⟩) (fun b u z => nomatch (show (none : Option HO) = some u from z)) (fun b z => absurd rfl z) (fun z => absurd rfl z)
  | none =>
    have atS : ∀ {b : Addr} {u : HO}, (if b = pa then some (HO.frz { cls := .type "list", data := .seq us.toArray } (.lst (ns.map V.int))) else none) = some u → b = pa ∧ u = .frz { cls := .type "list", data := .seq us.toArray } (.lst (ns.map V.int)) := by
      intro b u z
      split at z
      · cases z; exact ⟨by assumption, rfl⟩
      · cases z
    refine main (fun b => if b = pa then some (.frz { cls := .type "list", data := .seq us.toArray } (.lst (ns.map V.int))) else none) (fun b => ?_) (.rd (.inr ⟨_, if_pos rfl⟩) id) (fun b u z => ?_) (fun b z => ?_) fun _ => hk
    · by_cases h : b = pa
      · exact .inr ⟨_, _, if_pos h⟩
      · exact .inl (if_neg h)
    · obtain ⟨rfl, rfl⟩ := atS z
      exact ⟨hp, by rw [List.length_map]; exact hsz, us, _, relV, hp⟩
    · by_cases h : b = pa
      · exact h
      · exact absurd (if_neg h) z
/-- the goal that k_head leaves, from the def's promise -/
theorem walkG {l : PySem.W.OpenLaw} {n k : Nat} {q : Program} {loose : List Str} {XP : (Str → Option Value) → Heap → Prop} {YP : World → Heap → Prop} {d : DefRec} {K : Params → PySem.W.Frag} {mf : List PyData → Option (PyData × List PyData)}
    (most : l.most = some n) (small : n ≤ sizeLine) (noDef : d.params.defaults = []) (room : Room k callerA) (inK : ∀ (w : World) (h : Heap), YP w h → (K w.params).In h)
    (F : ∀ (w : World) (mg : Str → Option Value) (h : Heap), (K w.params).In h → h.Ns mainGlobals mg → ∀ base : Heap, (K w.params).In base → base.Ns mainGlobals mg → FnD l.prog w (K w.params) mg base k d.name [.frz] .frz mf) (yes : Yes n mf) :
    PySem.W.WalkO q loose XP YP l.row.toRowW d [] (fun f vs => PySem.call f vs) := by
  refine Att.attach_call most noDef fun w s₀ s₁ mg mb fa ob pm cd doc a vs ns G Y ho hd hcd hmg hobj intsA len bare => ?_
  exact headG (inK w _ Y) G.T.g G.T.b G.T.builtins G.T.nolimit bare hobj intsA len (Nat.le_trans len small) room hmg (F w mg _ (inK w _ Y) G.T.g) yes
end DL

/-! DLJ: many names at once; chains; lists put one behind another. -/
namespace DL
open PySem PySem.Spec PyProof.Rows L2

theorem hu1 {k : Nat} {A : Around} (r : Room k A) : A.units + 1 < cLine := by have := r.un; omega
theorem hu64 {k : Nat} {A : Around} (r : Room k A) : A.units + 64 < cLine := by have := r.un; omega
theorem hu65 {k : Nat} {A : Around} (r : Room k A) : A.units + 65 < cLine := by have := r.un; omega
theorem psOk_pins {own : List Nat} {vs : List V} {i : Nat} (h : own.contains i = false) : psOk (pinsOf own vs) i = true := by
  unfold psOk
  rw [List.all_eq_true]
  intro p hp
  obtain ⟨j, hj, e⟩ := List.mem_filterMap.mp hp
  obtain ⟨v, e1, e2⟩ := Option.map_eq_some_iff.mp e
  subst e2
  have : j ≠ i := fun z => by
    subst z
    rw [List.contains_iff_mem.mpr hj] at h
    cases h
  simpa using this
theorem frzAll_pins {ks : List Kd} {own : List Nat} {vs : List V} {l : List Nat} (h : (l.all fun i => decide (ks[i]? = some .frz) && !own.contains i) = true) : frzAll ks (pinsOf own vs) l = true := by
  unfold frzAll
  rw [List.all_eq_true] at h ⊢
  intro i hi
  have := h i hi
  rw [Bool.and_eq_true, Bool.not_eq_true'] at this
  rw [this.1, psOk_pins this.2]
  rfl
def ownOk : List Kd → List Nat → Nat → Bool
  | [], _, _ => true
  | kd :: pk, own, i => (decide (kd = .frz) || own.contains i) && ownOk pk own (i + 1)
theorem ownOk_of : ∀ {pk : List Kd} {own : List Nat} {j : Nat}, ownOk pk own j = true → ∀ (i : Nat) kd, pk[i]? = some kd → kd ≠ .frz → (j + i) ∈ own
  | [], _, _, _, i, kd, e, _ => by simp at e
  | k0 :: pk, own, j, h, i, kd, e, ne => by
    unfold ownOk at h
    rw [Bool.and_eq_true, Bool.or_eq_true, decide_eq_true_eq] at h
    cases i with
    | zero =>
      simp at e
      subst e
      exact List.contains_iff_mem.mp (h.1.resolve_left ne)
    | succ i =>
      have := ownOk_of h.2 i kd (by simpa using e) ne
      rw [show j + (i + 1) = j + 1 + i by omega]
      exact this
theorem hown_of {pk : List Kd} {own : List Nat} (h : ownOk pk own 0 = true) : ∀ (i : Nat) kd, pk[i]? = some kd → kd ≠ .frz → i ∈ own := fun i kd e ne => by
  have := ownOk_of h i kd e ne
  rwa [Nat.zero_add] at this

section
variable {rk : Kd} {X : Cx} {ks : List Kd} {ps : List (Nat × V)} {a b c e o : Expr} {es : List Expr} {pos pos' : Pos}

/-! ### expressions of told kinds -/
def OwnL (K : PySem.W.Frag) (H : Hp) (O : Addr → Prop) : List Kd → List (List Addr) → List PyData → List V → Prop
  | [], Frs, ds, vs => Frs = [] ∧ ds = [] ∧ vs = []
  | kd :: kds, Frs, ds, vs => ∃ Fr Fr' d ds' v vs', Frs = Fr :: Fr' ∧ ds = d :: ds' ∧ vs = v :: vs' ∧ OwnAt K H O kd Fr d v ∧ OwnL K H O kds Fr' ds' vs'
theorem OwnL.kp {K : PySem.W.Frag} {H H' : Hp} {O O' : Addr → Prop} (k : Kp O H O' H') : ∀ {kds : List Kd} {Frs : List (List Addr)} {ds : List PyData} {vs : List V}, (∀ a ∈ Frs.flatten, ∀ o, H a = some o → H' a = some o) → OwnL K H O kds Frs ds vs → OwnL K H' O' kds Frs ds vs
  | [], _, _, _, _, h => h
  | kd :: kds, _, _, _, hF, h => by
    obtain ⟨Fr, Fr', d, ds', v, vs', rfl, rfl, rfl, h1, h2⟩ := h
    exact ⟨Fr, Fr', d, ds', v, vs', rfl, rfl, rfl, h1.kp k fun a ha o e => hF a (by rw [List.flatten_cons]; exact List.mem_append_left _ ha) o e, OwnL.kp k (fun a ha o e => hF a (by rw [List.flatten_cons]; exact List.mem_append_right _ ha) o e) h2⟩
def tAf (K : PySem.W.Frag) (ks : List Kd) (ps : List (Nat × V)) (kds : List Kd) (m : M (List PyData)) : TA := fun σ H Q => ∃ G F env ds env', EI K ks ps G F σ H env ∧ m env = some (ds, env') ∧
  ∀ vs F' H' Frs, Stp F H F' H' → EI K ks ps (fun a => G a ∨ a ∈ Frs.flatten) F' σ H' env' → OwnL K H' (OO (fun a => G a ∨ a ∈ Frs.flatten) F') kds Frs ds vs → Frs.flatten.Nodup → (∀ a ∈ Frs.flatten, ¬ G a ∧ (a ∈ F.flatten ∨ H a = none)) → Q vs H'
abbrev AfD (X : Cx) (ks : List Kd) (ps : List (Nat × V)) (kds : List Kd) (es : List Expr) (m : M (List PyData)) : Prop := PA X es (tAf X.K ks ps kds m)
def mF0 : M (List PyData) := ret []
def mF (m : M PyData) (r : M (List PyData)) : M (List PyData) := bnd m fun d => bnd r fun ds => ret (d :: ds)
theorem af_nil : AfD X ks ps [] [] mF0 := PA.imp pa_nil fun σ H Q q => by
  obtain ⟨G, F, env, ds, env', I, hm, q⟩ := q
  cases hm
  exact q [] F H [] .refl (by rw [List.flatten_nil, noneG]; exact I) ⟨rfl, rfl, rfl⟩ List.nodup_nil fun a ha => nomatch ha
theorem af_cons {kd : Kd} {kds : List Kd} {m : M PyData} {r : M (List PyData)} (h : FD X ks ps kd e m) (hr : AfD X ks ps kds es r) (hs : starEach (e :: es) X.env = (false, eval e X.env) :: starEach es X.env := by rfl) : AfD X ks ps (kd :: kds) (e :: es) (mF m r) :=
  PA.imp (pa_cons h hr hs) fun σ H Q q => by
    obtain ⟨G, F, env, ds, env', I, hm, q⟩ := q
    obtain ⟨d, e1, h1, h2⟩ := bnd_some hm
    obtain ⟨ds', e2, h3, h4⟩ := bnd_some h2
    cases h4
    refine ⟨G, F, env, d, e1, I, h1, fun v F1 H1 Fr S1 I1 o1 n1 hF1 => ⟨_, F1, e1, ds', _, I1, h3, fun vs F2 H2 Frs S2 I2 o2 n2 hF2 => ?_⟩⟩
    have eG : (fun a => (G a ∨ a ∈ Fr) ∨ a ∈ Frs.flatten) = fun a => G a ∨ a ∈ (Fr :: Frs).flatten := by
      funext a
      rw [List.flatten_cons, List.mem_append, or_assoc]
    rw [eG] at I2 o2
    have nFr : ∀ a ∈ Fr, a ∉ F1.flatten := fun a ha z => (I1.tr a z).2 (.inr ha)
    have fr2 : ∀ a, a ∈ Frs.flatten → a ∈ F1.flatten ∨ H1 a = none := fun a ha => (hF2 a ha).2
    refine q (v :: vs) F2 H2 (Fr :: Frs) (S1.trans S2) I2 ⟨Fr, Frs, d, ds', v, vs, rfl, rfl, rfl, o1.kp (S2.kp2 fun a z => ?_) fun a ha ob e => S2.keep a ob e (nFr a ha), o2⟩ ?_ fun a ha => ?_
    · rw [List.flatten_cons, List.mem_append] at z
      rcases z with z | z | z
      · exact .inl (.inl z)
      · exact .inl (.inr z)
      · exact .inr (fr2 a z)
    · rw [List.flatten_cons]
      refine List.nodup_append.mpr ⟨n1, n2, fun a ha b hb z => ?_⟩
      subst z
      exact (hF2 a hb).1 (.inr ha)
    · rw [List.flatten_cons, List.mem_append] at ha
      rcases ha with ha | ha
      · exact hF1 a ha
      · exact ⟨fun z => (hF2 a ha).1 (.inl z), S1.nw (fr2 a ha)⟩

/-- a slot takes a datum of its kind -/
theorem EI.setK {K : PySem.W.Frag} {G : Addr → Prop} {F : List (List Addr)} {σ : L2.St} {H : Hp} {env : Ev} {i : Nat} {kd : Kd} {Fr : List Addr} {d : PyData} {v : V} (I : EI K ks ps (fun a => G a ∨ a ∈ Fr) F σ H env) (hk : ks[i]? = some kd) (hp : psOk ps i = true)
    (hn : Fr.Nodup) (hG : ∀ a ∈ Fr, ¬ G a) (ho : OwnAt K H (OO (fun a => G a ∨ a ∈ Fr) F) kd Fr d v) : EI K ks ps G (F.set i Fr) (σ.set i (some v)) H (env.set i (some d)) := by
  by_cases hne : kd = .frz
  · subst hne
    obtain ⟨rfl, r⟩ := ho
    have eF : F.set i [] = F := by
      refine List.ext_getElem? fun j => ?_
      rw [List.getElem?_set]
      by_cases hj : i = j
      · subst hj
        rw [if_pos rfl, I.fz i hk]
        split
        · rfl
        · rename_i hl
          exact absurd (List.getElem?_eq_some_iff.mp (I.fz i hk)).1 hl
      · rw [if_neg hj]
    rw [eF]
    rw [noneG] at I r
    exact I.set_frz hk (psOk_ne hp) r
  · exact I.setOwn hk hne hp hn hG ho
/-- many slots take their data -/
def stoE : List Nat → List PyData → Ev → Ev
  | i :: is, d :: ds, e => stoE is ds (e.set i (some d))
  | _, _, e => e
def stoS : List Nat → List V → L2.St → L2.St
  | i :: is, v :: vs, σ => stoS is vs (σ.set i (some v))
  | _, _, σ => σ
def stoF : List Nat → List (List Addr) → List (List Addr) → List (List Addr)
  | i :: is, Fr :: Frs, F => stoF is Frs (F.set i Fr)
  | _, _, F => F
def kdsAt (ks : List Kd) (ps : List (Nat × V)) : List Nat → List Kd → Prop
  | [], [] => True
  | i :: is, kd :: kds => ks[i]? = some kd ∧ psOk ps i = true ∧ kdsAt ks ps is kds
  | _, _ => False
theorem EI.setKs {K : PySem.W.Frag} {H : Hp} : ∀ {is : List Nat} {kds : List Kd} {G : Addr → Prop} {F : List (List Addr)} {σ : L2.St} {env : Ev} {Frs : List (List Addr)} {ds : List PyData} {vs : List V}, EI K ks ps (fun a => G a ∨ a ∈ Frs.flatten) F σ H env → kdsAt ks ps is kds →
    Frs.flatten.Nodup → (∀ a ∈ Frs.flatten, ¬ G a) → OwnL K H (OO (fun a => G a ∨ a ∈ Frs.flatten) F) kds Frs ds vs → EI K ks ps G (stoF is Frs F) (stoS is vs σ) H (stoE is ds env) ∧ ∀ a ∈ (stoF is Frs F).flatten, a ∈ F.flatten ∨ a ∈ Frs.flatten
  | [], [], G, F, σ, env, Frs, ds, vs, I, hk, hn, hG, ho => by
    obtain ⟨rfl, rfl, rfl⟩ := ho
    rw [List.flatten_nil, noneG] at I
    exact ⟨I, fun a ha => .inl ha⟩
  | [], _ :: _, _, _, _, _, _, _, _, _, hk, _, _, _ => by unfold kdsAt at hk; exact hk.elim
  | _ :: _, [], _, _, _, _, _, _, _, _, hk, _, _, _ => by unfold kdsAt at hk; exact hk.elim
  | i :: is, kd :: kds, G, F, σ, env, Frs, ds, vs, I, hk, hn, hG, ho => by
    obtain ⟨h1, h2, h3⟩ := hk
    obtain ⟨Fr, Fr', d, ds', v, vs', rfl, rfl, rfl, o1, o2⟩ := ho
    rw [List.flatten_cons] at hn
    obtain ⟨n1, n2, n3⟩ := List.nodup_append.mp hn
    have eG : (fun a => G a ∨ a ∈ (Fr :: Fr').flatten) = fun a => (G a ∨ a ∈ Fr'.flatten) ∨ a ∈ Fr := by
      funext a
      rw [List.flatten_cons, List.mem_append]
      apply propext
      constructor
      · rintro (z | z | z)
        · exact .inl (.inl z)
        · exact .inr z
        · exact .inl (.inr z)
      · rintro ((z | z) | z)
        · exact .inl z
        · exact .inr (.inr z)
        · exact .inr (.inl z)
    rw [eG] at I o1 o2
    have inA : ∀ {a : Addr}, a ∈ Fr → a ∈ (Fr :: Fr').flatten := fun {a} h => by rw [List.flatten_cons]; exact List.mem_append_left _ h
    have inB : ∀ {a : Addr}, a ∈ Fr'.flatten → a ∈ (Fr :: Fr').flatten := fun {a} h => by rw [List.flatten_cons]; exact List.mem_append_right _ h
    have I1 := I.setK (G := fun a => G a ∨ a ∈ Fr'.flatten) h1 h2 n1 (fun a ha z => z.elim (hG a (inA ha)) fun z => n3 a ha a z rfl) o1
    have less : ∀ a, OO (fun a => G a ∨ a ∈ Fr'.flatten) (F.set i Fr) a → OO (fun a => (G a ∨ a ∈ Fr'.flatten) ∨ a ∈ Fr) F a := fun a z => by
      rcases z with z | z
      · exact .inl (.inl z)
      · rcases mem_set z with m | ⟨j, Fj, hj, e, m⟩
        · exact .inl (.inr m)
        · exact .inr (mem_flat.mpr ⟨j, Fj, e, m⟩)
    obtain ⟨J, sub⟩ := EI.setKs I1 h3 n2 (fun a ha => hG a (inB ha)) (o2.kp (Kp.less less) fun a _ ob e => e)
    refine ⟨J, fun a ha => ?_⟩
    rcases sub a ha with z | z
    · rcases mem_set z with m | ⟨j, Fj, hj, e, m⟩
      · exact .inr (inA m)
      · exact .inl (mem_flat.mpr ⟨j, Fj, e, m⟩)
    · exact .inr (inB z)
theorem EI.setKsS {K : PySem.W.Frag} {H H0 : Hp} {is : List Nat} {kds : List Kd} {G : Addr → Prop} {F0 F : List (List Addr)} {σ : L2.St} {env : Ev} {Frs : List (List Addr)} {ds : List PyData} {vs : List V} (S : Stp F0 H0 F H) (I : EI K ks ps (fun a => G a ∨ a ∈ Frs.flatten) F σ H env) (hk : kdsAt ks ps is kds)
    (hn : Frs.flatten.Nodup) (hG : ∀ a ∈ Frs.flatten, ¬ G a ∧ (a ∈ F0.flatten ∨ H0 a = none)) (ho : OwnL K H (OO (fun a => G a ∨ a ∈ Frs.flatten) F) kds Frs ds vs) : EI K ks ps G (stoF is Frs F) (stoS is vs σ) H (stoE is ds env) ∧ Stp F0 H0 (stoF is Frs F) H := by
  obtain ⟨J, sub⟩ := EI.setKs I hk hn (fun a ha => (hG a ha).1) ho
  exact ⟨J, ⟨S.keep, S.dom, S.tup, S.frz, fun a ha => (sub a ha).elim (S.new a) fun z => (hG a z).2⟩⟩
theorem OwnL.len {K : PySem.W.Frag} {H : Hp} {O : Addr → Prop} : ∀ {kds : List Kd} {Frs : List (List Addr)} {ds : List PyData} {vs : List V}, OwnL K H O kds Frs ds vs → vs.length = kds.length ∧ ds.length = kds.length
  | [], _, _, _, h => by obtain ⟨rfl, rfl, rfl⟩ := h; exact ⟨rfl, rfl⟩
  | _ :: _, _, _, _, h => by
    obtain ⟨Fr, Fr', d, ds', v, vs', rfl, rfl, rfl, _, h2⟩ := h
    have := h2.len
    exact ⟨by simp [this.1], by simp [this.2]⟩
/-- a, b, .. = e1, e2, .. -/
def sParK (is : List Nat) (m : M (List PyData)) : B := fun e => match m e with
  | none => none
  | some (ds, e1) => some (.nx (stoE is ds e1))
theorem sParK_some {is : List Nat} {m : M (List PyData)} {e : Ev} {out : Out} (h : sParK is m e = some out) : ∃ ds e1, m e = some (ds, e1) ∧ out = .nx (stoE is ds e1) := by
  unfold sParK at h
  split at h
  · cases h
  · cases h; exact ⟨_, _, by assumption, rfl⟩
theorem sd_parK2 {i j : Nat} {x y : Str} {px py pt : Pos} {kt k2 pt2} {kds : List Kd} {m : M (List PyData)} (hc : X.calm = true) (hN : X.N.Nodup) (hi : X.N[i]? = some x) (hj : X.N[j]? = some y) (hij : i ≠ j)
    (hx : X.env.scope.names.lookup x = some .local) (hy : X.env.scope.names.lookup y = some .local) (hk : kdsAt ks ps [i, j] kds) (ha : AfD X ks ps kds [a, b] m)
    (hw : swappedStores [.Tuple [.Name x px, .Name y py] kt pt] (.Tuple [a, b] k2 pt2) X.env = pure (some [x, y]))
    (hs : swapsWithSole [.Tuple [.Name x px, .Name y py] kt pt] (.Tuple [a, b] k2 pt2) pos.line X.env = pure false := by rfl) :
    SD X ks ps rk (.Assign [.Tuple [.Name x px, .Name y py] kt pt] (.Tuple [a, b] k2 pt2) pos) (sParK [i, j] m) := PS.imp (ps_par hc hN hi hj hij hx hy ha hw hs) fun D σ H q => by
  obtain ⟨G, F, env, out, I, hm, q⟩ := q
  obtain ⟨ds, e1, h1, rfl⟩ := sParK_some hm
  refine ⟨G, F, env, ds, e1, I, h1, fun vs F1 H1 Frs S1 I1 o1 n1 hF => ?_⟩
  obtain ⟨J, S⟩ := I1.setKsS S1 hk n1 hF o1
  have l := o1.len.1
  have lk : kds.length = 2 := by
    match kds, hk with
    | [_, _], _ => rfl
    | [], hk => exact hk.elim
    | [_], hk => exact hk.2.2.elim
    | _ :: _ :: _ :: _, hk => exact hk.2.2.2.2.elim
  match vs, l.trans lk with
  | [v, w], _ => exact ⟨v, w, rfl, q _ _ H1 S J⟩
theorem sd_parK3 {i j l : Nat} {x y z : Str} {px py pz pt : Pos} {kt k2 pt2} {kds : List Kd} {m : M (List PyData)} (hc : X.calm = true) (hN : X.N.Nodup) (hi : X.N[i]? = some x) (hj : X.N[j]? = some y) (hl : X.N[l]? = some z) (hij : i ≠ j) (hil : i ≠ l) (hjl : j ≠ l)
    (hx : X.env.scope.names.lookup x = some .local) (hy : X.env.scope.names.lookup y = some .local) (hz : X.env.scope.names.lookup z = some .local) (hk : kdsAt ks ps [i, j, l] kds) (ha : AfD X ks ps kds [a, b, c] m)
    (hw : swappedStores [.Tuple [.Name x px, .Name y py, .Name z pz] kt pt] (.Tuple [a, b, c] k2 pt2) X.env = pure (some [x, y, z]))
    (hs : swapsWithSole [.Tuple [.Name x px, .Name y py, .Name z pz] kt pt] (.Tuple [a, b, c] k2 pt2) pos.line X.env = pure false := by rfl) :
    SD X ks ps rk (.Assign [.Tuple [.Name x px, .Name y py, .Name z pz] kt pt] (.Tuple [a, b, c] k2 pt2) pos) (sParK [i, j, l] m) := PS.imp (ps_par3 hc hN hi hj hl hij hil hjl hx hy hz ha hw hs) fun D σ H q => by
  obtain ⟨G, F, env, out, I, hm, q⟩ := q
  obtain ⟨ds, e1, h1, rfl⟩ := sParK_some hm
  refine ⟨G, F, env, ds, e1, I, h1, fun vs F1 H1 Frs S1 I1 o1 n1 hF => ?_⟩
  obtain ⟨J, S⟩ := I1.setKsS S1 hk n1 hF o1
  have l1 := o1.len.1
  have lk : kds.length = 3 := by
    match kds, hk with
    | [_, _, _], _ => rfl
    | [], hk => exact hk.elim
    | [_], hk => exact hk.2.2.elim
    | [_, _], hk => exact hk.2.2.2.2.elim
    | _ :: _ :: _ :: _ :: _, hk => exact hk.2.2.2.2.2.2.elim
  match vs, l1.trans lk with
  | [u, v, w], _ => exact ⟨u, v, w, rfl, q _ _ H1 S J⟩
/-- names as targets -/
def tNm (is : List Nat) : TGs := fun vs σ H Q => vs.length = is.length ∧ Q (stoS is vs σ) H
abbrev NmD (X : Cx) (ts : List Expr) (is : List Nat) : Prop := PGs X ts (tNm is)
theorem nm_nil : NmD X [] [] := PGs.imp pgs_nil fun vs σ H Q q => by
  obtain ⟨hl, q⟩ := q
  have : vs = [] := List.length_eq_zero_iff.mp hl
  subst this
  exact ⟨rfl, q⟩
theorem nm_cons {i : Nat} {is : List Nat} {x : Str} (hN : X.N.Nodup) (hi : X.N[i]? = some x) (hx : Loc X.env.scope x) (h : NmD X es is) (hf : X.fn x = true ∨ X.env.scope.names.lookup x = some .local := by first | exact .inl rfl | exact .inr rfl | assumption)
    (hs : (assignEach (.Name x pos :: es) X.env).map (·.2) = assign (.Name x pos) X.env :: (assignEach es X.env).map (·.2) := by rfl) : NmD X (.Name x pos :: es) (i :: is) := PGs.imp (pgs_cons (pg_name hN hi hx hf) h hs) fun vs σ H Q q => by
  obtain ⟨hl, q⟩ := q
  match vs, hl with
  | v :: vs, hl => exact ⟨v, vs, rfl, by simpa using hl, q⟩
theorem sd_parKn {n : Nat} {is : List Nat} {ts : List Expr} {kt k2 pt2} {pt : Pos} {kds : List Kd} {m : M (List PyData)} (hc : X.calm = true) (hn : NmD X ts is) (hk : kdsAt ks ps is kds) (hl : kds.length = is.length) (ha : AfD X ks ps kds es m) (hw : swappedStores [.Tuple ts kt pt] (.Tuple es k2 pt2) X.env = pure none := by rfl)
    (hs : swapsWithSole [.Tuple ts kt pt] (.Tuple es k2 pt2) pos.line X.env = pure false := by rfl) (h1 : (assignEach [.Tuple ts kt pt] X.env).map (·.2) = [assign (.Tuple ts kt pt) X.env] := by rfl) (hts : (assignEach ts X.env).length = is.length := by rfl) (hst : (assignEach ts X.env).findIdx? (·.1) = none := by rfl) (hz : is.length ≤ sizeLine := by decide) :
    SD X ks ps rk (.Assign [.Tuple ts kt pt] (.Tuple es k2 pt2) pos) (sParK is m) := PS.imp (ps_asg (pe_tup ha) (pg_tup hc hn hts hst) hs hw h1) fun D σ H q => by
  obtain ⟨G, F, env, out, I, hm, q⟩ := q
  obtain ⟨ds, e1, h1, rfl⟩ := sParK_some hm
  refine ⟨G, F, env, ds, e1, I, h1, fun vs F1 H1 Frs S1 I1 o1 n1 hF => ?_⟩
  have lv : vs.length = is.length := o1.len.1.trans hl
  refine ⟨by rw [lv]; exact hz, fun p hp => ?_⟩
  have s := same_upd (o := .tup vs) hp
  have I2 := I1.same s
  have o2 : OwnL X.K (upd H1 p (.tup vs)) (OO (fun a => G a ∨ a ∈ Frs.flatten) F1) kds Frs ds vs := o1.kp (Same.kp s) fun a _ ob e => s a ob e
  obtain ⟨J, S⟩ := I2.setKsS (S1.trans (.same s)) hk n1 hF o2
  exact ⟨p, vs, rfl, .inl (.inl upd_same), lv, lv, q _ _ _ S J⟩
end
end DL

/-! DLK: chains; lists put one behind another; sorted; more. -/
namespace DL
open PySem PySem.Spec PyProof.Rows L2
def kdsB (ks : List Kd) (own : List Nat) : List Nat → List Kd → Bool
  | [], [] => true
  | i :: is, kd :: kds => decide (ks[i]? = some kd) && (!own.contains i && kdsB ks own is kds)
  | _, _ => false
theorem kds_of {ks : List Kd} {own : List Nat} {vs : List V} : ∀ {is : List Nat} {kds : List Kd}, kdsB ks own is kds = true → kdsAt ks (pinsOf own vs) is kds
  | [], [], _ => trivial
  | [], _ :: _, h => nomatch h
  | _ :: _, [], h => nomatch h
  | i :: is, kd :: kds, h => by
    unfold kdsB at h
    rw [Bool.and_eq_true, Bool.and_eq_true, decide_eq_true_eq, Bool.not_eq_true'] at h
    exact ⟨h.1, psOk_pins h.2.1, kds_of h.2.2⟩
section
variable {rk : Kd} {X : Cx} {ks : List Kd} {ps : List (Nat × V)} {a b c e o : Expr} {es : List Expr} {pos pos' : Pos}
/-! ### a op b op c -/
def mChain (f g : PyData → PyData → Option PyData) (ma mb mc : M Opd) : M PyData := bnd ma fun x => bnd mb fun y => bnd (rs2 f x y) fun r => bnd (lft (bOf r)) fun k => if k then bnd mc fun z => rs2 g y z else ret (.bool false)
theorem chain_read {op op' : CmpOp} {f g : PyData → PyData → Option PyData} {ma mb mc : M Opd} {σ : L2.St} {H : Hp} {Q : VK} {r r' : R2}
    (hr : ∀ x y H Q, (∃ O dx dy d, (∀ p, H p = none → ¬ O p) ∧ Rep X.K H O dx x ∧ Rep X.K H O dy y ∧ f dx dy = some d ∧ ∀ v H', Same H H' → Rep X.K H' O d v → Q v H') → r x y H Q)
    (hr' : ∀ x y H Q, (∃ O dx dy d, (∀ p, H p = none → ¬ O p) ∧ Rep X.K H O dx x ∧ Rep X.K H O dy y ∧ g dx dy = some d ∧ ∀ v H', Same H H' → Rep X.K H' O d v → Q v H') → r' x y H Q)
    (q : tD X.K ks ps (mChain f g ma mb mc) σ H Q) : tChain r r' (tR X.K ks ps ma) (tR X.K ks ps mb) (tR X.K ks ps mc) σ H Q := by
  obtain ⟨G, F, env, d, env', I, hm, q⟩ := q
  obtain ⟨ox, e1, h1, ha⟩ := bnd_some hm
  obtain ⟨oy, e2, h3, hb⟩ := bnd_some ha
  obtain ⟨rr, e3, h5, hc⟩ := bnd_some hb
  obtain ⟨k, e4, h6, h7⟩ := bnd_some hc
  obtain ⟨h6, rfl⟩ := lft_some h6
  obtain ⟨rfl, dx, dy, g1, g2, g3, gi⟩ := rs2_some h5
  have er : rr = .bool k := by
    cases rr with
    | bool k' => cases h6; rfl
    | _ => cases h6
  subst er
  refine ⟨G, F, env, ox, e1, I, h1, fun v F1 H1 S1 I1 r1 => ⟨G, F1, e1, oy, _, I1, h3, fun u F2 H2 S2 I2 r2 => hr v u H2 _ ?_⟩⟩
  have r1' := HoldsO.rep I2 (r1.stp S2) g1
  have r2' := HoldsO.rep I2 r2 g2
  refine ⟨if (ox.own || oy.own) then fun _ => False else OO G F2, dx, dy, _, fresh_if I2, Rep.kp (less_if (by intro z; simp [z])) r1', Rep.kp (less_if (by intro z; simp [z])) r2', g3, fun w H3 s3 r3 => ?_⟩
  simp only [Rep] at r3
  refine ⟨k, r3, ?_⟩
  have I3 := I2.same s3
  have S3 := (S1.trans S2).trans (.same s3)
  cases k with
  | false =>
    rw [if_neg Bool.false_ne_true]
    rw [if_neg Bool.false_ne_true] at h7
    cases h7
    exact q _ F2 H3 S3 I3 rep_bl
  | true =>
    rw [if_pos rfl]
    rw [if_pos rfl] at h7
    obtain ⟨oz, e5, h8, h9⟩ := bnd_some h7
    obtain ⟨rfl, dy', dz, k1, k2, k3, ki⟩ := rs2_some h9
    refine ⟨G, F2, _, oz, _, I3, h8, fun t F4 H4 S4 I4 r4 => hr' u t H4 Q ?_⟩
    have q1 := HoldsO.rep I4 ((r2.stp (.same s3)).stp S4) k1
    have q2 := HoldsO.rep I4 r4 k2
    refine ⟨if (oy.own || oz.own) then fun _ => False else OO G F4, dy', dz, d, fresh_if I4, Rep.kp (less_if (by intro z; simp [z])) q1, Rep.kp (less_if (by intro z; simp [z])) q2, k3, fun w' H5 s5 r5 => ?_⟩
    exact q w' F4 H5 ((S3.trans S4).trans (.same s5)) (I4.same s5) (ifown ki r5)
theorem ed_chain {op op' : CmpOp} {f g : PyData → PyData → Option PyData} {ma mb mc : M Opd} (ho : Op2 X (compareOp op) f) (ho' : Op2 X (compareOp op') g) (ha : RD X ks ps a ma) (hb : RD X ks ps b mb) (hc : RD X ks ps c mc)
    (hm : lastMarks [op, op'] [b, c] = false := by with_unfolding_all rfl) : ED X ks ps (.Compare a [op, op'] [b, c] pos) (mChain f g ma mb mc) :=
  PE.imp (pe_chain ho ho' ha hb hc hm) fun σ H Q q => chain_read (op := op) (op' := op') (fun x y H Q z => z) (fun x y H Q z => z) q
theorem td_chain {op op' : CmpOp} {f g : PyData → PyData → Option PyData} {ma mb mc : M Opd} (ho : Op2 X (compareOp op) f) (ho' : Op2 X (compareOp op') g) (ha : RD X ks ps a ma) (hb : RD X ks ps b mb) (hc : RD X ks ps c mc)
    (hm : lastMarks [op, op'] [b, c] = false := by with_unfolding_all rfl) : TD X ks ps (.Compare a [op, op'] [b, c] pos) (mTest (mChain f g ma mb mc)) :=
  PT.imp (pt_chain ho ho' ha hb hc hm) fun σ H Q q => by
    obtain ⟨G, F, env, d, env', I, hm, q⟩ := q
    obtain ⟨x, e1, h1, h2⟩ := bnd_some hm
    obtain ⟨h2, rfl⟩ := lft_some h2
    refine chain_read (op := op) (op' := op') (fun x y H Q z => z) (fun x y H Q z => z) ⟨G, F, env, x, env', I, h1, fun v F' H' S J r => ?_⟩
    cases x with
    | bool k =>
      cases h2
      simp only [Rep] at r
      exact ⟨_, r, q F' H' S J⟩
    | _ => cases h2
end
end DL

/-! DLS: mirrors worked out. -/
namespace DL
open PySem PySem.Spec PyProof.Rows L2

/-! ### the words of the mirrors, applied -/
section
variable {α β : Type} {e : Ev}
@[simp] theorem ret_ap {a : α} : ret a e = some (a, e) := rfl
@[simp] theorem bnd_ap {m : M α} {f : α → M β} : bnd m f e = (m e).bind fun p => f p.1 p.2 := by
  unfold bnd
  cases m e <;> rfl
@[simp] theorem lft_ap {o : Option α} : lft o e = o.map fun a => (a, e) := by cases o <;> rfl
@[simp] theorem mVal_ap {m : M PyData} : mVal m e = (m e).map fun p => (Opd.val p.1, p.2) := by
  unfold mVal bnd
  cases m e <;> rfl
@[simp] theorem mVar_ap {i : Nat} : mVar i e = (e[i]?).join.map fun d => (d, e) := by
  unfold mVar
  cases h : e[i]? with
  | none => rfl
  | some o => cases o <;> rfl
@[simp] theorem mSlot_ap {i : Nat} : mSlot i e = (e[i]?).join.map fun _ => (Opd.slot i, e) := by
  unfold mSlot
  cases h : e[i]? with
  | none => rfl
  | some o => cases o <;> rfl
@[simp] theorem mTake_ap {i : Nat} : mTake i e = (e[i]?).join.map fun d => (d, e.set i none) := by
  unfold mTake
  cases h : e[i]? with
  | none => rfl
  | some o => cases o <;> rfl
@[simp] theorem mA0_ap : mA0 e = some ([], e) := rfl
@[simp] theorem mA_ap {m : M Opd} {r : M (List Opd)} : mA m r e = (m e).bind fun p => (r p.2).map fun q => (p.1 :: q.1, q.2) := by
  unfold mA bnd
  cases m e with
  | none => rfl
  | some p =>
    obtain ⟨o, e1⟩ := p
    dsimp only [Option.bind_some]
    cases r e1 <;> rfl
@[simp] theorem getO_val {d : PyData} : (Opd.val d).get e = some d := rfl
@[simp] theorem getO_slot {i : Nat} : (Opd.slot i).get e = (e[i]?).join := by
  show (match e[i]? with | some (some d) => some d | _ => none) = _
  cases h : e[i]? with
  | none => rfl
  | some o => cases o <;> rfl
@[simp] theorem own_val {d : PyData} : (Opd.val d).own = false := rfl
@[simp] theorem own_slot {i : Nat} : (Opd.slot i).own = true := rfl
@[simp] theorem getAll_nil : getAll [] e = some [] := rfl
@[simp] theorem getAll_cons {o : Opd} {r : List Opd} : getAll (o :: r) e = (o.get e).bind fun d => (getAll r e).map fun ds => d :: ds := by
  conv => lhs; unfold getAll
  cases o.get e with
  | none => rfl
  | some d => cases h : getAll r e <;> simp [h]
@[simp] theorem allVal_nil : allVal [] = some [] := rfl
@[simp] theorem allVal_val {d : PyData} {r : List Opd} : allVal (.val d :: r) = (allVal r).map fun ds => d :: ds := by
  conv => lhs; unfold allVal
  cases allVal r <;> rfl
/-- what comes of slots is to hang on nothing -/
def keepI (b : Bool) (r : PyData) (e : Ev) : Option (PyData × Ev) := if b && !imm r then none else some (r, e)
@[simp] theorem keepI_f {r : PyData} : keepI false r e = some (r, e) := rfl
@[simp] theorem keepI_t {r : PyData} : keepI true r e = if imm r then some (r, e) else none := by
  unfold keepI
  cases imm r <;> rfl
@[simp] theorem rs1_ap {g : PyData → Option PyData} {o : Opd} : rs1 g o e = (o.get e).bind fun d => (g d).bind fun r => keepI o.own r e := by
  unfold rs1
  cases o.get e with
  | none => rfl
  | some d => cases h : g d <;> simp [h, keepI]
@[simp] theorem rs2_ap {g : PyData → PyData → Option PyData} {o p : Opd} : rs2 g o p e = (o.get e).bind fun d => (p.get e).bind fun d' => (g d d').bind fun r => keepI (o.own || p.own) r e := by
  unfold rs2
  cases o.get e with
  | none => rfl
  | some d =>
    cases p.get e with
    | none => rfl
    | some d' => cases h : g d d' <;> simp [h, keepI]
@[simp] theorem rsN_ap {g : List PyData → Option PyData} {os : List Opd} : rsN g os e = (getAll os e).bind fun ds => (g ds).bind fun r => keepI (os.any Opd.own) r e := by
  unfold rsN
  cases getAll os e with
  | none => rfl
  | some ds => cases h : g ds <;> simp [h, keepI]
@[simp] theorem mBin_ap {g : PyData → PyData → Option PyData} {ma mb : M Opd} : mBin g ma mb e = (ma e).bind fun p => (mb p.2).bind fun q => rs2 g p.1 q.1 q.2 := by simp [mBin]
@[simp] theorem mUn_ap {g : PyData → Option PyData} {ma : M Opd} : mUn g ma e = (ma e).bind fun p => rs1 g p.1 p.2 := by simp [mUn]
@[simp] theorem mCallB_ap {g : List PyData → Option PyData} {ma : M (List Opd)} : mCallB g ma e = (ma e).bind fun p => rsN g p.1 p.2 := by simp [mCallB]
@[simp] theorem mTest_ap {m : M PyData} : mTest m e = (m e).bind fun p => (bOf p.1).map fun b => (b, p.2) := by simp [mTest]
@[simp] theorem bOf_bool {b : Bool} : bOf (.bool b) = some b := rfl
@[simp] theorem mNot_ap {m : M Bool} : mNot m e = (m e).map fun p => (!p.1, p.2) := by
  unfold mNot bnd
  cases m e <;> rfl
@[simp] theorem mAnd_ap {m n : M Bool} : mAnd m n e = (m e).bind fun p => if p.1 = true then n p.2 else some (false, p.2) := by
  unfold mAnd bnd
  cases m e with
  | none => rfl
  | some p => obtain ⟨b, e1⟩ := p; cases b <;> rfl
@[simp] theorem mOr_ap {m n : M Bool} : mOr m n e = (m e).bind fun p => if p.1 = true then some (true, p.2) else n p.2 := by
  unfold mOr bnd
  cases m e with
  | none => rfl
  | some p => obtain ⟨b, e1⟩ := p; cases b <;> rfl
@[simp] theorem mAndV_ap {m n : M PyData} : mAndV m n e = (m e).bind fun p => (bOf p.1).bind fun b => if b = true then n p.2 else some (.bool false, p.2) := by
  unfold mAndV mTest bnd
  cases m e with
  | none => rfl
  | some p =>
    obtain ⟨d, e1⟩ := p
    simp only [Option.bind_some]
    cases h : bOf d with
    | none => simp [h]
    | some b => cases b <;> simp [h]
@[simp] theorem mOrV_ap {m n : M PyData} : mOrV m n e = (m e).bind fun p => (bOf p.1).bind fun b => if b = true then some (.bool true, p.2) else n p.2 := by
  unfold mOrV mTest bnd
  cases m e with
  | none => rfl
  | some p =>
    obtain ⟨d, e1⟩ := p
    simp only [Option.bind_some]
    cases h : bOf d with
    | none => simp [h]
    | some b => cases b <;> simp [h]
@[simp] theorem mNotV_ap {m : M PyData} : mNotV m e = (m e).bind fun p => (bOf p.1).map fun b => (.bool (!b), p.2) := by
  unfold mNotV mTest bnd
  cases m e with
  | none => rfl
  | some p =>
    obtain ⟨d, e1⟩ := p
    simp only [Option.bind_some]
    cases h : bOf d <;> simp [h]
@[simp] theorem mIf_ap {c : M Bool} {m n : M α} : mIf c m n e = (c e).bind fun p => if p.1 = true then m p.2 else n p.2 := by
  unfold mIf bnd
  cases c e with
  | none => rfl
  | some p => obtain ⟨b, e1⟩ := p; cases b <;> rfl
@[simp] theorem mTup_ap {ma : M (List Opd)} : mTup ma e = (ma e).bind fun p => (allVal p.1).bind fun ds => if ds.length ≤ 1000 then some (.tuple ds, p.2) else none := by
  unfold mTup bnd
  cases ma e with
  | none => rfl
  | some p =>
    obtain ⟨os, e1⟩ := p
    simp only [Option.bind_some]
    cases h : allVal os with
    | none => rfl
    | some ds => by_cases hl : ds.length ≤ 1000 <;> simp [h, hl]
@[simp] theorem mLst_ap {ma : M (List Opd)} : mLst ma e = (ma e).bind fun p => (allVal p.1).bind fun ds => if ds.length ≤ 1000 then some (.list ds, p.2) else none := by
  unfold mLst bnd
  cases ma e with
  | none => rfl
  | some p =>
    obtain ⟨os, e1⟩ := p
    simp only [Option.bind_some]
    cases h : allVal os with
    | none => rfl
    | some ds => by_cases hl : ds.length ≤ 1000 <;> simp [h, hl]
@[simp] theorem mChain_ap {f g : PyData → PyData → Option PyData} {ma mb mc : M Opd} : mChain f g ma mb mc e = (ma e).bind fun p => (mb p.2).bind fun q => (rs2 f p.1 q.1 q.2).bind fun r => (bOf r.1).bind fun k => if k = true then (mc r.2).bind fun t => rs2 g q.1 t.1 t.2 else some (.bool false, r.2) := by
  unfold mChain
  simp only [bnd_ap, lft_ap]
  cases ma e with
  | none => rfl
  | some p =>
    simp only [Option.bind_some]
    cases mb p.2 with
    | none => rfl
    | some q =>
      simp only [Option.bind_some]
      cases h : rs2 f p.1 q.1 q.2 with
      | none => rfl
      | some r =>
        simp only [Option.bind_some]
        cases h2 : bOf r.1 with
        | none => rfl
        | some k => cases k <;> simp
@[simp] theorem rsK_ap {rk : Kd} {g : List PyData → Option PyData} {os : List Opd} : rsK rk g os e = (getAll os e).bind fun ds => (g ds).bind fun r => if os.any Opd.own && !immK rk r then none else some (r, e) := by
  unfold rsK
  cases getAll os e with
  | none => rfl
  | some ds => cases h : g ds <;> simp [h]
@[simp] theorem mCall_ap {rk : Kd} {n : Nat} {mf : List PyData → Option (PyData × List PyData)} {ma : M (List Opd)} : mCall rk n mf ma e = (ma e).bind fun p => rsK rk (fun ds => if ds.length = n then (mf ds).map (·.1) else none) p.1 p.2 := by simp [mCall]

/-! ### statements -/
@[simp] theorem sSeq_ap {m n : B} : sSeq m n e = match m e with
  | some (.nx e') => n e'
  | r => r := rfl
@[simp] theorem sNx_ap : sNx e = some (.nx e) := rfl
@[simp] theorem sBk_ap : sBk e = some (.bk e) := rfl
@[simp] theorem sCt_ap : sCt e = some (.ct e) := rfl
@[simp] theorem sExpr_ap {m : M PyData} : sExpr m e = (m e).map fun p => .nx p.2 := by
  unfold sExpr
  cases m e <;> rfl
@[simp] theorem sRet_ap {m : M PyData} : sRet m e = (m e).map fun p => .rt p.1 p.2 := by
  unfold sRet
  cases m e <;> rfl
@[simp] theorem sIf_ap {c : M Bool} {m n : B} : sIf c m n e = (c e).bind fun p => if p.1 = true then m p.2 else n p.2 := by
  unfold sIf
  cases c e with
  | none => rfl
  | some p => obtain ⟨b, e1⟩ := p; cases b <;> rfl
@[simp] theorem sAsg_ap {m : M PyData} {g : St1} : sAsg m g e = (m e).bind fun p => (g p.1 p.2).map .nx := by
  unfold sAsg
  cases m e with
  | none => rfl
  | some p => obtain ⟨d, e1⟩ := p; simp only [Option.bind_some]; cases h : g d e1 <;> simp [h]
@[simp] theorem gNm_ap {i : Nat} {d : PyData} : gNm i d e = some (e.set i (some d)) := rfl
@[simp] theorem gNl_ap : gNl [] e = some e := rfl
@[simp] theorem gCn_ap {m : St1} {n : List PyData → Ev → Option Ev} {d : PyData} {r : List PyData} : gCn m n (d :: r) e = (m d e).bind fun e1 => n r e1 := by
  show (match m d e with | none => none | some e1 => n r e1) = _
  cases m d e <;> rfl
@[simp] theorem gTp_ap {n : Nat} {m : List PyData → Ev → Option Ev} {ds : List PyData} : gTp n m (.tuple ds) e = if ds.length = n then m ds e else none := rfl
@[simp] theorem sAug_ap {i : Nat} {g : PyData → PyData → Option PyData} {m : M PyData} : sAug i g m e = (e[i]?).join.bind fun x => (m e).bind fun p => (g x p.1).map fun z => .nx (p.2.set i (some z)) := by
  unfold sAug
  cases h : e[i]? with
  | none => rfl
  | some o =>
    cases o with
    | none => rfl
    | some x =>
      simp only [Option.join_some, Option.bind_some]
      cases h2 : m e with
      | none => rfl
      | some p =>
        obtain ⟨y, e1⟩ := p
        simp only [Option.bind_some]
        cases h3 : g x y <;> simp [h3]
@[simp] theorem mF0_ap : mF0 e = some ([], e) := rfl
@[simp] theorem mF_ap {m : M PyData} {r : M (List PyData)} : mF m r e = (m e).bind fun p => (r p.2).map fun q => (p.1 :: q.1, q.2) := by
  unfold mF bnd
  cases m e with
  | none => rfl
  | some p =>
    obtain ⟨o, e1⟩ := p
    dsimp only [Option.bind_some]
    cases r e1 <;> rfl
@[simp] theorem sParK_ap {is : List Nat} {m : M (List PyData)} : sParK is m e = (m e).map fun p => .nx (stoE is p.1 p.2) := by
  unfold sParK
  cases m e <;> rfl
@[simp] theorem stoE_nil {ds : List PyData} : stoE [] ds e = e := by cases ds <;> rfl
@[simp] theorem stoE_cons {i : Nat} {is : List Nat} {d : PyData} {ds : List PyData} : stoE (i :: is) (d :: ds) e = stoE is ds (e.set i (some d)) := rfl
@[simp] theorem mIt_ap {m : M PyData} : mIt m e = (m e).bind fun p => (itsOf p.1).map fun ds => (ds, p.2) := by simp [mIt]
@[simp] theorem itsOf_list {ds : List PyData} : itsOf (.list ds) = some ds := rfl
@[simp] theorem itsOf_tuple {ds : List PyData} : itsOf (.tuple ds) = some ds := rfl
@[simp] theorem sFor_ap {m : M (List PyData)} {g : St1} {b : B} : sFor m g b e = (m e).bind fun p => loopB g b p.1 p.2 := by
  unfold sFor
  cases m e <;> rfl
@[simp] theorem mRng_ap {g : List PyData → Option (List PyData)} {m : M (List Opd)} : mRng g m e = (m e).bind fun p => (allVal p.1).bind fun ds => (g ds).map fun l => (l, p.2) := by
  unfold mRng bnd
  cases m e with
  | none => rfl
  | some p =>
    obtain ⟨os, e1⟩ := p
    simp only [Option.bind_some]
    cases h : allVal os with
    | none => rfl
    | some ds => simp
@[simp] theorem mIsi_ap {c : String} {m : M Opd} : mIsi c m e = (m e).bind fun p => rs1 (fun d => if isiOk c then some (.bool (isiT (tyD d) c)) else none) p.1 p.2 := by simp [mIsi]
@[simp] theorem mYes_ap : mYes e = some (true, e) := rfl
@[simp] theorem mNoPart_ap : mNoPart e = some (none, e) := rfl
@[simp] theorem mPart_ap {m : M PyData} : mPart m e = (m e).bind fun p => (iOf p.1).map fun i => (i, p.2) := by simp [mPart]
@[simp] theorem iOf_int {i : Int} : iOf (.int i) = some (some i) := rfl
@[simp] theorem mSl_ap {m : M Opd} {l h : M (Option Int)} : mSl m l h e = (m e).bind fun p => (l p.2).bind fun q => (h q.2).bind fun r => rs1 (sliceD q.1 r.1) p.1 r.2 := by simp [mSl]
@[simp] theorem mSrcGet_ap {i : Nat} {k : SKey} : mSrcGet i k e = (srcAt i e).map fun s => (.int (k.get s), e) := by
  unfold mSrcGet
  cases srcAt i e <;> rfl
@[simp] theorem mSrcLen_ap {i : Nat} : mSrcLen i e = (srcAt i e).map fun s => (.int (s.1.length : Int), e) := by
  unfold mSrcLen
  cases srcAt i e <;> rfl
end

@[simp] theorem ite_some_pair {α β : Type} {c : Prop} [Decidable c] {a b : α} {e : β} : (if c then some (a, e) else some (b, e)) = some (if c then a else b, e) := by split <;> rfl
/-! ### operations on told data -/
section
variable {i j : Int} {xs ys : List PyData}
@[simp] theorem addD_i : addD (.int i) (.int j) = some (.int (i + j)) := rfl
@[simp] theorem addD_t : addD (.tuple xs) (.tuple ys) = if xs.length + ys.length ≤ sizeLine then some (.tuple (xs ++ ys)) else none := rfl
@[simp] theorem addD_l : addD (.list xs) (.list ys) = if xs.length + ys.length ≤ sizeLine then some (.list (xs ++ ys)) else none := rfl
@[simp] theorem iaddD_i : iaddD (.int i) (.int j) = some (.int (i + j)) := rfl
@[simp] theorem subD_i : subD (.int i) (.int j) = some (.int (i - j)) := rfl
@[simp] theorem mulD_i : mulD (.int i) (.int j) = if mulOk i j then some (.int (i * j)) else none := rfl
@[simp] theorem fdivD_i : fdivD (.int i) (.int j) = if j ≠ 0 ∧ j.natAbs < 1073741824 then some (.int (i.fdiv j)) else none := rfl
@[simp] theorem modD_i : modD (.int i) (.int j) = if j ≠ 0 then some (.int (i.fmod j)) else none := rfl
@[simp] theorem negD_i : negD (.int i) = some (.int (-i)) := rfl
@[simp] theorem ltD_i : ltD (.int i) (.int j) = some (.bool (decide (i < j))) := rfl
@[simp] theorem leD_i : leD (.int i) (.int j) = some (.bool (decide (i ≤ j))) := rfl
@[simp] theorem gtD_i : gtD (.int i) (.int j) = some (.bool (decide (j < i))) := rfl
@[simp] theorem geD_i : geD (.int i) (.int j) = some (.bool (decide (j ≤ i))) := rfl
@[simp] theorem lenD_l : lenD [.list xs] = some (.int xs.length) := rfl
@[simp] theorem lenD_t : lenD [.tuple xs] = some (.int xs.length) := rfl
@[simp] theorem absD_i : absD [.int i] = some (.int (if i < 0 then -i else i)) := rfl
@[simp] theorem intD_i : intD [.int i] = some (.int i) := rfl
@[simp] theorem intD_b {b : Bool} : intD [.bool b] = some (.int (if b then 1 else 0)) := rfl
@[simp] theorem max2D_i : max2D [.int i, .int j] = some (.int (if j > i then j else i)) := rfl
@[simp] theorem min2D_i : min2D [.int i, .int j] = some (.int (if j < i then j else i)) := rfl
@[simp] theorem tupleD_l : tupleD [.list xs] = some (.tuple xs) := rfl
@[simp] theorem tupleD_t : tupleD [.tuple xs] = some (.tuple xs) := rfl
@[simp] theorem listD_l : listD [.list xs] = some (.list xs) := rfl
@[simp] theorem listD_t : listD [.tuple xs] = some (.list xs) := rfl
@[simp] theorem itemD_l : itemD (.list xs) (.int i) = atI xs i := rfl
@[simp] theorem itemD_t : itemD (.tuple xs) (.int i) = atI xs i := rfl
theorem atI_zero {x : PyData} : atI (x :: xs) 0 = some x := atI_nat (j := 0) rfl
theorem atI_one {x y : PyData} : atI (x :: y :: xs) 1 = some y := atI_nat (j := 1) rfl
theorem atI_two {x y z : PyData} : atI (x :: y :: z :: xs) 2 = some z := atI_nat (j := 2) rfl
theorem atI_three {x y z t : PyData} : atI (x :: y :: z :: t :: xs) 3 = some t := atI_nat (j := 3) rfl
@[simp] theorem isD_b {a b : Bool} : isD (.bool a) (.bool b) = some (.bool (decide (a = b))) := rfl
@[simp] theorem isNotD_b {a b : Bool} : isNotD (.bool a) (.bool b) = some (.bool (!decide (a = b))) := rfl
@[simp] theorem revD_l : revD (.list xs) = some (.list xs.reverse) := rfl
@[simp] theorem imm_i : imm (.int i) = true := rfl
@[simp] theorem imm_b {b : Bool} : imm (.bool b) = true := rfl
@[simp] theorem imm_n : imm .none = true := rfl
@[simp] theorem imm_s {x : Str} : imm (.str x) = true := rfl
@[simp] theorem imm_t : imm (.tuple xs) = immA xs := rfl
@[simp] theorem immA_nil : immA [] = true := rfl
@[simp] theorem immA_cons {x : PyData} : immA (x :: xs) = (imm x && immA xs) := rfl
theorem shaped_i : SeqAt.shaped (.int i) = true := rfl
theorem shaped_b {b : Bool} : SeqAt.shaped (.bool b) = true := rfl
theorem shaped_n : SeqAt.shaped .none = true := rfl
@[simp] theorem eqD_i : eqD (.int i) (.int j) = some (.bool (decide (i = j))) := by
  show some (PyData.bool (PyData.eqv (.int i) (.int j))) = _
  unfold PyData.eqv
  congr 2
@[simp] theorem neD_i : neD (.int i) (.int j) = some (.bool (!decide (i = j))) := by
  show some (PyData.bool (!PyData.eqv (.int i) (.int j))) = _
  unfold PyData.eqv
  congr 2
end
/-! ### the source, worked out -/
abbrev Src := List Int × Int × Int × Int
theorem srcOf_dt (s : Src) : srcOf (srcDt s) = some s := by
  obtain ⟨a, b, c, d⟩ := s
  exact srcOf_srcD a b c d
/-- the cells are taken until what is left is 2 or more -/
def feed : List Int → Int → List Int × Int
  | [], l => ([], l)
  | c :: cs, l => if l < 2 then feed cs c else (c :: cs, l)
def pick1 (f : List Int × Int) (m t many : Int) : Int × Src :=
  if many < 2 ∨ 1 < f.2 then (f.2.fmod (max 1 many), (f.1.reverse, f.2.fdiv (max 1 many), m, t))
  else ((((((m + (t + 1) * 104729).fmod 998244353) * ((m + (t + 1) * 104729).fmod 998244353) + (t + 1) * 17).fmod 2147483647).fdiv 16).fmod many,
    (f.1.reverse, f.2, (((m + (t + 1) * 104729).fmod 998244353) * ((m + (t + 1) * 104729).fmod 998244353) + (t + 1) * 17).fmod 2147483647, t + 1))
def pickR (s : Src) (many : Int) : Int × Src := pick1 (if 1 < many then feed s.1.reverse s.2.1 else (s.1.reverse, s.2.1)) s.2.2.1 s.2.2.2 many
theorem pick1_lo (f : List Int × Int) (m t many : Int) : 0 ≤ (pick1 f m t many).1 := by
  unfold pick1
  split
  · exact Int.fmod_nonneg_of_pos _ (by omega)
  · exact Int.fmod_nonneg_of_pos _ (by omega)
theorem pick1_hi (f : List Int × Int) (m t many : Int) : (pick1 f m t many).1 < max 1 many := by
  unfold pick1
  split
  · exact Int.fmod_lt_of_pos _ (by omega)
  · exact Int.lt_of_lt_of_le (Int.fmod_lt_of_pos _ (b := many) (by omega)) (by omega)
theorem pickR_lo (s : Src) (many : Int) : 0 ≤ (pickR s many).1 := pick1_lo _ _ _ _
theorem pickR_hi (s : Src) (many : Int) : (pickR s many).1 < max 1 many := pick1_hi _ _ _ _
def mmSource : List PyData → Option (PyData × List PyData) := mDef .src [.frz] 3
  (sSeq (sAsg (ret (.int 11)) (gNm 1))
  (sSeq (sFor (mIt (mVar 0)) (gNm 2)
  (sAsg (mBin modD (mVal (mCallB intD (mA (mVal (mBin addD (mVal (mBin addD (mVal (mBin mulD (mVal (mVar 1)) (mVal (ret (.int 69069))))) (mVal (mBin mulD (mVal (mVar 2)) (mVal (ret (.int 31))))))) (mVal (ret (.int 5))))) mA0))) (mVal (ret (.int 2147483629)))) (gNm 1)))
  (sRet (mSrcNew (mUn revD (mVal (mComp (mIt (mVar 0)) (gNm 2) mYes (mCallB absD (mA (mVal (mVar 2)) mA0)) [2]))) (ret (.int 1)) (mVar 1) (ret (.int 0))))))
def mmPick : List PyData → Option (PyData × List PyData) := mDef .frz [.src, .frz] 4
  (sSeq (sWhile (srcFuel 0) (mAnd (mTest (mBin gtD (mVal (mVar 1)) (mVal (ret (.int 1))))) (mAnd (mTest (mBin ltD (mVal (mSrcGet 0 .left)) (mVal (ret (.int 2))))) (mTest (mBin gtD (mVal (mSrcLen 0)) (mVal (ret (.int 0)))))))
  (sSrcPut 0 .left (mSrcPop 0)))
  (sSeq (sAsg (mSrcGet 0 .left) (gNm 2))
  (sSeq (sIf (mOr (mTest (mBin ltD (mVal (mVar 1)) (mVal (ret (.int 2))))) (mTest (mBin gtD (mVal (mVar 2)) (mVal (ret (.int 1))))))
  (sSeq (sSrcPut 0 .left (mBin fdivD (mVal (mVar 2)) (mVal (mCallB max2D (mA (mVal (ret (.int 1))) (mA (mVal (mVar 1)) mA0))))))
  (sRet (mBin modD (mVal (mCallB intD (mA (mVal (mVar 2)) mA0))) (mVal (mCallB max2D (mA (mVal (ret (.int 1))) (mA (mVal (mVar 1)) mA0)))))))
  sNx)
  (sSeq (sSrcPut 0 .turn (mBin addD (mVal (mSrcGet 0 .turn)) (mVal (ret (.int 1)))))
  (sSeq (sAsg (mBin modD (mVal (mCallB intD (mA (mVal (mBin addD (mVal (mSrcGet 0 .mixed)) (mVal (mBin mulD (mVal (mSrcGet 0 .turn)) (mVal (ret (.int 104729))))))) mA0))) (mVal (ret (.int 998244353)))) (gNm 3))
  (sSeq (sAsg (mBin modD (mVal (mCallB intD (mA (mVal (mBin addD (mVal (mBin mulD (mVal (mVar 3)) (mVal (mVar 3)))) (mVal (mBin mulD (mVal (mSrcGet 0 .turn)) (mVal (ret (.int 17))))))) mA0))) (mVal (ret (.int 2147483647)))) (gNm 3))
  (sSeq (sSrcPut 0 .mixed (mVar 3))
  (sRet (mBin modD (mVal (mCallB intD (mA (mVal (mBin fdivD (mVal (mVar 3)) (mVal (ret (.int 16))))) mA0))) (mVal (mVar 1)))))))))))

@[simp] theorem sSrcPut_ap {i : Nat} {k : SKey} {m : M PyData} {e : Ev} : sSrcPut i k m e = (m e).bind fun p => (match p.1 with | .int x => some x | _ => none).bind fun x => (srcAt i p.2).map fun s => .nx (p.2.set i (some (srcDt (k.put x s)))) := by
  unfold sSrcPut
  cases m e with
  | none => rfl
  | some p =>
    obtain ⟨d, e1⟩ := p
    cases d <;> first | rfl | (simp only [Option.bind_some]; cases h : srcAt i e1 <;> simp [h])
theorem srcAt_0 {s : Src} {r : Ev} : srcAt 0 (some (srcDt s) :: r) = some s := srcOf_dt s
theorem sSrcPut_0 {k : SKey} {m : M PyData} {e e1 r : Ev} {x : Int} {s : Src} (h : m e = some (.int x, e1)) (h2 : e1 = some (srcDt s) :: r) : sSrcPut 0 k m e = some (.nx (some (srcDt (k.put x s)) :: r)) := by
  subst h2
  unfold sSrcPut
  rw [h]
  dsimp only
  rw [srcAt_0]
  rfl
theorem mSrcPop_0 {cs : List Int} {x l m t : Int} {r : Ev} : mSrcPop 0 (some (srcDt (cs ++ [x], l, m, t)) :: r) = some (.int x, some (srcDt (cs, l, m, t)) :: r) := by
  unfold mSrcPop
  rw [srcAt_0]
  simp [srcDt]
theorem smallI_of {i : Int} (h : i.natAbs < 2 ^ 64) : smallI i = true := by
  unfold smallI
  rw [Bool.and_eq_true, decide_eq_true_eq, decide_eq_true_eq]
  omega
theorem feed_loop {many : Int} {m t : Int} {r : Ev} (hm : 1 < many) : ∀ (cs : List Int) (l : Int), whileB (mAnd (mTest (mBin gtD (mVal (mVar 1)) (mVal (ret (.int 1))))) (mAnd (mTest (mBin ltD (mVal (mSrcGet 0 .left)) (mVal (ret (.int 2))))) (mTest (mBin gtD (mVal (mSrcLen 0)) (mVal (ret (.int 0)))))))
    (sSrcPut 0 .left (mSrcPop 0)) (cs.length + 1) (some (srcDt (cs.reverse, l, m, t)) :: some (.int many) :: r) = some (.nx (some (srcDt ((feed cs l).1.reverse, (feed cs l).2, m, t)) :: some (.int many) :: r))
  | [], l => by
    unfold whileB
    by_cases hl : l < 2 <;> simp [gtD, ltD, srcAt_0, SKey.get, hm, hl, feed]
  | c :: cs, l => by
    unfold whileB
    by_cases hl : l < 2
    · have ih := feed_loop (m := m) (t := t) (r := r) hm cs c
      simp [gtD, ltD, srcAt_0, SKey.get, SKey.put, hm, hl, mSrcPop_0, ih, feed]
    · simp [gtD, ltD, srcAt_0, SKey.get, hm, hl, feed]
theorem mulOk_r {i j : Int} (h : j.natAbs < 2 ^ 64) : mulOk i j = true := by
  unfold mulOk
  rw [smallI_of h]
  simp
theorem mulOk_l {i j : Int} (h : i.natAbs < 2 ^ 64) : mulOk i j = true := by
  unfold mulOk
  rw [smallI_of h]
  simp
theorem fmod_small (i : Int) {j : Int} (h : 0 < j) (h2 : j < 2 ^ 64) : (i.fmod j).natAbs < 2 ^ 64 := by
  have h3 := Int.fmod_nonneg_of_pos i h
  have h4 := Int.fmod_lt_of_pos i h
  omega
theorem max_eq (many : Int) : (if many > 1 then many else 1) = max 1 many := by omega
theorem pick_spec (s : Src) (many : Int) (hm : many.natAbs < 1073741824) : mmPick [srcDt s, .int many] = some (.int (pickR s many).1, [srcDt (pickR s many).2, .int many]) := by
  obtain ⟨cs, l, m, t⟩ := s
  unfold mmPick mDef
  have h1 : ∀ (cs : List Int) (l : Int), (∃ f : List Int × Int, (if 1 < many then feed cs.reverse l else (cs.reverse, l)) = f ∧ sWhile (srcFuel 0) (mAnd (mTest (mBin gtD (mVal (mVar 1)) (mVal (ret (.int 1))))) (mAnd (mTest (mBin ltD (mVal (mSrcGet 0 .left)) (mVal (ret (.int 2))))) (mTest (mBin gtD (mVal (mSrcLen 0)) (mVal (ret (.int 0)))))))
    (sSrcPut 0 .left (mSrcPop 0)) [some (srcDt (cs, l, m, t)), some (.int many), none, none] = some (.nx [some (srcDt (f.1.reverse, f.2, m, t)), some (.int many), none, none])) := by
    intro cs l
    refine ⟨_, rfl, ?_⟩
    unfold sWhile srcFuel
    rw [srcAt_0]
    dsimp only
    by_cases h : 1 < many
    · have := feed_loop (m := m) (t := t) (r := [none, none]) h cs.reverse l
      rw [List.reverse_reverse, List.length_reverse] at this
      rw [this, if_pos h]
    · rw [if_neg h, List.reverse_reverse]
      unfold whileB
      simp [gtD, h]
  obtain ⟨f, hf, h2⟩ := h1 cs l
  have e : pickR (cs, l, m, t) many = pick1 f m t many := by
    unfold pickR
    rw [hf]
  rw [e]
  simp only [List.map_cons, List.map_nil, List.length_cons, List.length_nil, List.cons_append, List.nil_append, List.replicate]
  rw [sSeq_ap, h2]
  dsimp only
  have ne : max 1 many ≠ 0 := by omega
  have sm : (max 1 many).natAbs < 1073741824 := by omega
  unfold pick1
  by_cases hc : many < 2 ∨ 1 < f.2
  · rw [if_pos hc]
    have hd : (many < 2) ∨ (1 < f.2) := hc
    simp [srcAt_0, SKey.get, SKey.put, max_eq, ne, sm, finB, outsOf, hd]
  · rw [if_neg hc]
    have n1 : ¬ many < 2 := fun z => hc (.inl z)
    have n2 : ¬ 1 < f.2 := fun z => hc (.inr z)
    have n0 : ¬ many = 0 := by omega
    have k1 : ∀ i, mulOk i 104729 = true := fun i => mulOk_r (by decide)
    have k2 : ∀ i, mulOk i 17 = true := fun i => mulOk_r (by decide)
    have k3 : ∀ i j : Int, mulOk (Int.fmod i 998244353) j = true := fun i j => mulOk_l (fmod_small i (by decide) (by decide))
    simp [srcAt_0, SKey.get, SKey.put, max_eq, ne, sm, finB, outsOf, n0, n1, n2, k1, k2, k3]

/-! ### loops and comprehensions, worked out -/
theorem loopB_inv {S : Type} {g : St1} {body : B} (R : S → Ev → Prop) (step : S → PyData → S) : ∀ {ds : List PyData} {s : S} {e : Ev}, R s e → (∀ d ∈ ds, ∀ s e, R s e → ∃ e1 e2, g d e = some e1 ∧ (body e1 = some (.nx e2) ∨ body e1 = some (.ct e2)) ∧ R (step s d) e2) →
    ∃ e', loopB g body ds e = some (.nx e') ∧ R (ds.foldl step s) e'
  | [], s, e, h, _ => ⟨e, rfl, h⟩
  | d :: ds, s, e, h, H => by
    obtain ⟨e1, e2, h1, h2, h3⟩ := H d List.mem_cons_self s e h
    obtain ⟨e', h4, h5⟩ := loopB_inv R step h3 fun d' hd => H d' (List.mem_cons_of_mem _ hd)
    refine ⟨e', ?_, h5⟩
    unfold loopB
    rw [h1]
    dsimp only
    rcases h2 with h2 | h2
    · rw [h2]; exact h4
    · rw [h2]; exact h4
/-- each turn keeps R, or gives r back -/
theorem loopB_all {g : St1} {body : B} (R : Ev → Prop) (P : PyData → Bool) (r : PyData) : ∀ {ds : List PyData} {e : Ev}, R e → (∀ d ∈ ds, ∀ e, R e → ∃ e1 e2, g d e = some e1 ∧ if P d = true then (body e1 = some (.nx e2) ∨ body e1 = some (.ct e2)) ∧ R e2 else body e1 = some (.rt r e2) ∧ R e2) →
    ∃ e', R e' ∧ loopB g body ds e = some (if ds.all P = true then .nx e' else .rt r e')
  | [], e, h, _ => ⟨e, h, rfl⟩
  | d :: ds, e, h, H => by
    obtain ⟨e1, e2, h1, h2⟩ := H d List.mem_cons_self e h
    unfold loopB
    rw [h1]
    dsimp only
    rw [List.all_cons]
    by_cases hp : P d = true
    · rw [if_pos hp] at h2
      obtain ⟨e', h4, h5⟩ := loopB_all R P r h2.2 fun d' hd => H d' (List.mem_cons_of_mem _ hd)
      refine ⟨e', h4, ?_⟩
      rw [hp, Bool.true_and]
      rcases h2.1 with h2 | h2
      · rw [h2]; exact h5
      · rw [h2]; exact h5
    · rw [if_neg hp] at h2
      refine ⟨e2, h2.2, ?_⟩
      rw [h2.1]
      rw [Bool.not_eq_true] at hp
      simp [hp]
theorem compL_fm {g : St1} {t : M Bool} {m : M PyData} {vs : List Nat} {e0 : Ev} (p : PyData → Bool) (f : PyData → PyData) : ∀ {ds : List PyData}, (∀ d ∈ ds, ∃ e1 e2, g d e0 = some e1 ∧ t e1 = some (p d, e2) ∧ (p d = false → wipeE e2 vs = e0) ∧ (p d = true → ∃ e3, m e2 = some (f d, e3) ∧ wipeE e3 vs = e0)) →
    compL g t m vs ds e0 = some ((ds.filter p).map f, e0)
  | [], _ => rfl
  | d :: ds, H => by
    obtain ⟨e1, e2, h1, h2, h3, h4⟩ := H d List.mem_cons_self
    have ih := compL_fm p f fun d' hd => H d' (List.mem_cons_of_mem _ hd)
    unfold compL
    rw [h1]
    dsimp only
    rw [h2]
    cases hp : p d with
    | false =>
      dsimp only
      rw [h3 hp, ih, List.filter_cons_of_neg (by rw [hp]; decide)]
    | true =>
      obtain ⟨e3, h5, h6⟩ := h4 hp
      dsimp only
      rw [h5]
      dsimp only
      rw [h6, ih, List.filter_cons_of_pos hp]
      rfl
theorem backE_get (e0 e : Ev) (i : Nat) : ∀ vs : List Nat, (backE e0 e vs)[i]? = if i ∈ vs ∧ i < e.length then some (e0.getD i none) else e[i]?
  | [] => by
    rw [if_neg (fun z => nomatch z.1)]
    rfl
  | v :: vs => by
    unfold backE
    rw [List.getElem?_set, backE_len, backE_get e0 e i vs]
    by_cases hv : v = i
    · subst hv
      by_cases hl : v < e.length
      · rw [if_pos rfl, if_pos hl, if_pos ⟨List.mem_cons_self, hl⟩]
      · rw [if_pos rfl, if_neg hl, if_neg (fun z => hl z.2), List.getElem?_eq_none_iff.mpr (Nat.le_of_not_lt hl)]
    · rw [if_neg hv]
      have : i ∈ v :: vs ↔ i ∈ vs := by
        rw [List.mem_cons]
        exact ⟨fun z => z.resolve_left (Ne.symm hv), .inr⟩
      simp only [this]
theorem wipeE_get (e : Ev) (i : Nat) : ∀ vs : List Nat, (wipeE e vs)[i]? = if i ∈ vs ∧ i < e.length then some none else e[i]?
  | [] => by
    rw [if_neg (fun z => nomatch z.1)]
    rfl
  | v :: vs => by
    unfold wipeE
    rw [List.getElem?_set, wipeE_len, wipeE_get e i vs]
    by_cases hv : v = i
    · subst hv
      by_cases hl : v < e.length
      · rw [if_pos rfl, if_pos hl, if_pos ⟨List.mem_cons_self, hl⟩]
      · rw [if_pos rfl, if_neg hl, if_neg (fun z => hl z.2), List.getElem?_eq_none_iff.mpr (Nat.le_of_not_lt hl)]
    · rw [if_neg hv]
      have : i ∈ v :: vs ↔ i ∈ vs := by
        rw [List.mem_cons]
        exact ⟨fun z => z.resolve_left (Ne.symm hv), .inr⟩
      simp only [this]
theorem backE_wipe (e : Ev) (vs : List Nat) : backE e (wipeE e vs) vs = e := by
  refine List.ext_getElem? fun i => ?_
  rw [backE_get, wipeE_get, wipeE_len]
  by_cases h : i ∈ vs ∧ i < e.length
  · rw [if_pos h, List.getD_eq_getElem?_getD, List.getElem?_eq_getElem h.2]
    rfl
  · rw [if_neg h, if_neg h]
theorem mComp_fm {it : M (List PyData)} {g : St1} {t : M Bool} {m : M PyData} {vs : List Nat} {e e1 : Ev} {ds : List PyData} (p : PyData → Bool) (f : PyData → PyData) (h : it e = some (ds, e1)) (hl : ds.length ≤ 1000000)
    (H : ∀ d ∈ ds, ∃ e2 e3, g d (wipeE e1 vs) = some e2 ∧ t e2 = some (p d, e3) ∧ (p d = false → wipeE e3 vs = wipeE e1 vs) ∧ (p d = true → ∃ e4, m e3 = some (f d, e4) ∧ wipeE e4 vs = wipeE e1 vs)) : mComp it g t m vs e = some (.list ((ds.filter p).map f), e1) := by
  unfold mComp
  rw [h]
  dsimp only
  rw [if_pos hl, compL_fm p f H]
  dsimp only
  rw [backE_wipe]
theorem mComp_m {it : M (List PyData)} {g : St1} {m : M PyData} {vs : List Nat} {e e1 : Ev} {ds : List PyData} (f : PyData → PyData) (h : it e = some (ds, e1)) (hl : ds.length ≤ 1000000)
    (H : ∀ d ∈ ds, ∃ e2 e4, g d (wipeE e1 vs) = some e2 ∧ m e2 = some (f d, e4) ∧ wipeE e4 vs = wipeE e1 vs) : mComp it g mYes m vs e = some (.list (ds.map f), e1) := by
  have := mComp_fm (it := it) (g := g) (t := mYes) (m := m) (vs := vs) (fun _ => true) f h hl fun d hd => by
    obtain ⟨e2, e4, h1, h2, h3⟩ := H d hd
    exact ⟨e2, e2, h1, rfl, (fun z => nomatch z), fun _ => ⟨e4, h2, h3⟩⟩
  rw [this, List.filter_eq_self.mpr fun _ _ => rfl]
/-- the script's source -/
def srcS (ns : List Int) : Src := ((ns.map fun i => if i < 0 then -i else i).reverse, 1, ns.foldl (fun m c => (m * 69069 + c * 31 + 5).fmod 2147483629) 11, 0)
theorem source_spec (ns : List Int) (hn : ns.length ≤ 63) : mmSource [.list (ns.map PyData.int)] = some (srcDt (srcS ns), [.list (ns.map PyData.int)]) := by
  have k1 : ∀ i, mulOk i 69069 = true := fun i => mulOk_r (by decide)
  have k2 : ∀ i, mulOk i 31 = true := fun i => mulOk_r (by decide)
  have loop : ∀ (ns : List Int) (m : Int) (S : PyData) (c : Option PyData), ∃ c', loopB (gNm 2) (sAsg (mBin modD (mVal (mCallB intD (mA (mVal (mBin addD (mVal (mBin addD (mVal (mBin mulD (mVal (mVar 1)) (mVal (ret (.int 69069))))) (mVal (mBin mulD (mVal (mVar 2)) (mVal (ret (.int 31))))))) (mVal (ret (.int 5))))) mA0))) (mVal (ret (.int 2147483629)))) (gNm 1))
      (ns.map PyData.int) [some S, some (.int m), c] = some (.nx [some S, some (.int (ns.foldl (fun m c => (m * 69069 + c * 31 + 5).fmod 2147483629) m)), c']) := by
    intro ns
    induction ns with
    | nil => exact fun m S c => ⟨c, rfl⟩
    | cons n ns ih =>
      intro m S c
      obtain ⟨c', h⟩ := ih ((m * 69069 + n * 31 + 5).fmod 2147483629) S (some (.int n))
      refine ⟨c', ?_⟩
      rw [List.map_cons, List.foldl_cons]
      unfold loopB
      simp [k1, k2]
      exact h
  obtain ⟨c', h⟩ := loop ns 11 (.list (ns.map PyData.int)) none
  unfold mmSource mDef
  simp only [List.map_cons, List.map_nil, List.length_cons, List.length_nil, List.cons_append, List.nil_append, List.replicate]
  have hc : ∀ M : Int, mComp (mIt (mVar 0)) (gNm 2) mYes (mCallB absD (mA (mVal (mVar 2)) mA0)) [2] [some (.list (ns.map PyData.int)), some (.int M), c'] = some (.list ((ns.map fun i => if i < 0 then -i else i).map PyData.int), [some (.list (ns.map PyData.int)), some (.int M), c']) := by
    intro M
    have := mComp_m (it := mIt (mVar 0)) (g := gNm 2) (m := mCallB absD (mA (mVal (mVar 2)) mA0)) (vs := [2]) (e := [some (.list (ns.map PyData.int)), some (.int M), c']) (e1 := [some (.list (ns.map PyData.int)), some (.int M), c']) (ds := ns.map PyData.int) (fun d => match d with | .int i => .int (if i < 0 then -i else i) | d => d) (by simp) (by simp; omega) fun d hd => by
      obtain ⟨i, _, rfl⟩ := List.mem_map.mp hd
      simp [wipeE]
    rw [this]
    simp [Function.comp_def]
  have hi : intsOf ((ns.map fun i => if i < 0 then -i else i).map PyData.int).reverse = some (ns.map fun i => if i < 0 then -i else i).reverse := by
    rw [← List.map_reverse, intsOf_map]
  simp [h, hc, mSrcNew, finB, outsOf]
  rw [← List.map_map, hi]
  rfl

/-! ### repr of small data -/
mutual
/-- no dict, ints of 64 bits -/
def okD : PyData → Bool
  | .none | .bool _ | .str _ => true
  | .int i => decide (i.natAbs < 2 ^ 64)
  | .list xs | .tuple xs => okA xs
  | .dict _ => false
def okA : List PyData → Bool
  | [] => true
  | x :: xs => okD x && okA xs
end
mutual
/-- room enough for what is shown -/
def sz : PyData → Nat
  | .none => 4
  | .bool _ => 5
  | .int _ => 70
  | .str x => (reprText x).length
  | .list xs | .tuple xs => szA xs + 3
  | .dict _ => 0
def szA : List PyData → Nat
  | [] => 0
  | x :: xs => sz x + 2 + szA xs
end
theorem textFrom_le : ∀ (ts : List Str) (k : Nat) (acc : Str), (textFrom k acc ts).length ≤ acc.length + piled ts
  | [], k, acc => by
    show acc.length ≤ _
    omega
  | t :: r, k, acc => by
    have ih := textFrom_le r (k + 1) (acc ++ (if k > 0 then ", " else "" : String) ++ t)
    have e : (acc ++ (if k > 0 then ", " else "" : String) ++ t).length ≤ acc.length + 2 + t.length := by
      rw [strLen_append, strLen_append]
      split
      · show acc.length + 2 + t.length ≤ _
        omega
      · show acc.length + 0 + t.length ≤ _
        omega
    rw [piled_cons]
    have e2 : textFrom k acc (t :: r) = textFrom (k + 1) (acc ++ (if k > 0 then ", " else "" : String) ++ t) r := rfl
    rw [e2]
    omega
theorem listText_le (ts : List Str) : (listText ts).length ≤ piled ts + 2 := by
  unfold listText
  rw [strLen_append]
  have := textFrom_le ts 0 "["
  have e1 : (("[" : String) : Str).length = 1 := rfl
  have e2 : (("]" : String) : Str).length = 1 := rfl
  omega
theorem tupleText_le (ts : List Str) : (tupleText ts).length ≤ piled ts + 3 := by
  unfold tupleText
  rw [strLen_append, strLen_append]
  have e1 : (("(" : String) : Str).length = 1 := rfl
  have e2 : ((if ts.length == 1 then ",)" else ")" : String) : Str).length ≤ 2 := by
    split
    · exact Nat.le_refl 2
    · exact (by decide : 1 ≤ 2)
  by_cases h : ts = []
  · subst h
    have e3 : (Str.join ", " ([] : List Str)).length = 0 := rfl
    omega
  · have := join_length_add ts h
    omega
theorem intText_le {i : Int} (h : i.natAbs < 2 ^ 64) : ((toString i : String) : Str).length ≤ 70 := by
  have dl : ∀ n : Nat, n < 2 ^ 64 → (Nat.toDigits 10 n).length ≤ 64 := fun n hn => (Nat.length_toDigits_le_iff (by decide) (by decide)).mpr (Nat.lt_of_lt_of_le hn (by decide))
  have hs : ∀ n : Nat, n < 2 ^ 64 → (toString n : String).length ≤ 64 := fun n hn => by
    show (String.ofList (Nat.toDigits 10 n)).length ≤ 64
    rw [String.length_ofList]
    exact dl n hn
  rw [PySem.ofString_length]
  cases i with
  | ofNat n =>
    have := hs n h
    show (toString n : String).length ≤ 70
    omega
  | negSucc n =>
    have := hs (n + 1) h
    show ("-" ++ toString (n + 1) : String).length ≤ 70
    rw [String.length_append]
    have e1 : ("-" : String).length = 1 := rfl
    omega
mutual
theorem shown_le : ∀ {d : PyData}, okD d = true → d.shown.length ≤ sz d
  | .none, _ => by
    unfold PyData.shown sz
    exact Nat.le_refl 4
  | .bool b, _ => by
    unfold PyData.shown sz
    cases b
    · exact Nat.le_refl 5
    · exact (by decide : 4 ≤ 5)
  | .int i, h => by
    unfold okD at h
    unfold PyData.shown sz
    exact intText_le (of_decide_eq_true h)
  | .str x, _ => by
    unfold PyData.shown sz
    exact Nat.le_refl _
  | .list xs, h => by
    unfold okD at h
    unfold PyData.shown sz
    have := listText_le (PyData.shownAll xs)
    have := shownA_le h
    omega
  | .tuple xs, h => by
    unfold okD at h
    unfold PyData.shown sz
    have := tupleText_le (PyData.shownAll xs)
    have := shownA_le h
    omega
  | .dict _, h => by unfold okD at h; cases h
theorem shownA_le : ∀ {ds : List PyData}, okA ds = true → piled (PyData.shownAll ds) ≤ szA ds
  | [], _ => by
    unfold PyData.shownAll szA
    exact Nat.le_refl 0
  | x :: xs, h => by
    unfold okA at h
    rw [Bool.and_eq_true] at h
    unfold PyData.shownAll szA
    rw [piled_cons]
    have := shown_le h.1
    have := shownA_le h.2
    omega
end
mutual
theorem okD_lay : ∀ {d : PyData}, okD d = true → d.showable = true ∧ layD d = true ∧ d.hasDict = false
  | .none, _ => by simp only [PyData.showable, layD, PyData.hasDict, and_self]
  | .bool _, _ => by simp only [PyData.showable, layD, PyData.hasDict, and_self]
  | .str _, _ => by simp only [PyData.showable, layD, PyData.hasDict, and_self]
  | .int i, h => by
    unfold okD at h
    have h := of_decide_eq_true h
    refine ⟨?_, by simp only [layD], by simp only [PyData.hasDict]⟩
    unfold PyData.showable
    refine decide_eq_true ?_
    by_cases h0 : i.natAbs = 0
    · rw [h0]; decide
    · exact Nat.lt_trans ((Nat.log2_lt h0).mpr h) (by decide)
  | .list xs, h => by
    unfold okD at h
    obtain ⟨h1, h2, h3⟩ := okA_lay h
    exact ⟨by unfold PyData.showable; exact h1, by unfold layD; exact h2, by unfold PyData.hasDict; exact h3⟩
  | .tuple xs, h => by
    unfold okD at h
    obtain ⟨h1, h2, h3⟩ := okA_lay h
    exact ⟨by unfold PyData.showable; exact h1, by unfold layD; exact h2, by unfold PyData.hasDict; exact h3⟩
  | .dict _, h => by unfold okD at h; cases h
theorem okA_lay : ∀ {ds : List PyData}, okA ds = true → PyData.showableAll ds = true ∧ layA ds = true ∧ PyData.hasDictAll ds = false
  | [], _ => by simp only [PyData.showableAll, layA, PyData.hasDictAll, and_self]
  | x :: xs, h => by
    unfold okA at h
    rw [Bool.and_eq_true] at h
    obtain ⟨a1, a2, a3⟩ := okD_lay h.1
    obtain ⟨b1, b2, b3⟩ := okA_lay h.2
    unfold PyData.showableAll layA PyData.hasDictAll
    rw [a1, a2, a3, b1, b2, b3]
    exact ⟨rfl, rfl, rfl⟩
end
theorem reprOk_of {d : PyData} (h : okD d = true) (h1 : sz d ≤ 16777216) (h2 : d.depth ≤ 60) : reprOk d = true := by
  obtain ⟨a1, a2, a3⟩ := okD_lay h
  unfold reprOk
  rw [a1, a2, a3, decide_eq_true h2, decide_eq_true (by rw [sizeLine_eq]; exact Nat.le_trans (shown_le h) h1)]
  rfl
@[simp] theorem reprD_ok {d : PyData} : reprD [d] = if reprOk d then some (.str d.shown) else none := rfl

/-! ### lists of one's own; calls with the source -/
def asL : PyData → Option (List PyData)
  | .list ds => some ds
  | _ => none
@[simp] theorem asL_list {ds : List PyData} : asL (.list ds) = some ds := rfl
@[simp] theorem lstAt_ap {i : Nat} {e : Ev} : lstAt i e = (e[i]?).join.bind asL := by
  unfold lstAt
  cases h : e[i]? with
  | none => rfl
  | some o =>
    cases o with
    | none => rfl
    | some d => cases d <;> rfl
@[simp] theorem mApp_ap {i : Nat} {m : M PyData} {e : Ev} : mApp i m e = (lstAt i e).bind fun _ => (m e).bind fun p => (lstAt i p.2).bind fun ds => if ds.length ≤ 1000000 then some (.none, p.2.set i (some (.list (ds ++ [p.1])))) else none := by
  unfold mApp
  cases lstAt i e with
  | none => rfl
  | some ds0 =>
    simp only [Option.bind_some]
    cases m e with
    | none => rfl
    | some p =>
      obtain ⟨y, e1⟩ := p
      simp only [Option.bind_some]
      cases h : lstAt i e1 with
      | none => simp [h]
      | some ds => simp [h]
@[simp] theorem noSlot_nil {i : Nat} : noSlot i [] = true := rfl
@[simp] theorem noSlot_val {i : Nat} {d : PyData} {r : List Opd} : noSlot i (.val d :: r) = noSlot i r := rfl
/-- a draw, as a step -/
theorem pick_at {i : Nat} {e e1 : Ev} {m : M PyData} {many : Int} {s s0 : Src} (h0 : e[i]? = some (some (srcDt s0))) (h : m e = some (.int many, e1)) (h1 : e1[i]? = some (some (srcDt s))) (hm : many.natAbs < 1073741824) :
    mCallS .frz .src mmPick i 1 (mA (mVal m) mA0) e = some (.int (pickR s many).1, e1.set i (some (srcDt (pickR s many).2))) := by
  unfold mCallS
  rw [h0]
  dsimp only
  simp only [mA_ap, mVal_ap, h, Option.map_some, Option.bind_some, mA0_ap]
  rw [h1]
  simp [pick_spec s many hm]
@[simp] theorem mCallS_ap {rk kd : Kd} {mf : List PyData → Option (PyData × List PyData)} {i n : Nat} {ma : M (List Opd)} {e : Ev} : mCallS rk kd mf i n ma e = (e[i]?).join.bind fun _ => (ma e).bind fun p => (p.2[i]?).join.bind fun s => (getAll p.1 p.2).bind fun ds =>
    if ds.length = n ∧ noSlot i p.1 = true then (mf (s :: ds)).bind fun r => r.2.head?.bind fun y => if p.1.any Opd.own && !(immK rk r.1 && decide (kd = .src)) then none else some (r.1, p.2.set i (some y)) else none := by
  unfold mCallS
  cases h : e[i]? with
  | none => rfl
  | some o =>
    cases o with
    | none => rfl
    | some d0 =>
      simp only [Option.join_some, Option.bind_some]
      cases h1 : ma e with
      | none => rfl
      | some p =>
        obtain ⟨os, e1⟩ := p
        simp only [Option.bind_some]
        cases h2 : e1[i]? with
        | none => simp [h2]
        | some o2 =>
          cases o2 with
          | none => simp [h2]
          | some s =>
            simp only [h2, Option.join_some, Option.bind_some]
            cases h3 : getAll os e1 with
            | none => simp [h3]
            | some ds =>
              simp only [h3, Option.bind_some]
              split
              · cases h4 : mf (s :: ds) with
                | none => rfl
                | some r =>
                  obtain ⟨d, l⟩ := r
                  cases l with
                  | nil => rfl
                  | cons y l => rfl
              · rfl
theorem pick_ex (s : Src) (many : Int) (hm : many.natAbs < 1073741824) : ∃ r s', mmPick [srcDt s, .int many] = some (.int r, [srcDt s', .int many]) ∧ 0 ≤ r ∧ r < max 1 many := ⟨_, _, pick_spec s many hm, pickR_lo s many, pickR_hi s many⟩
theorem rg1_i {j : Int} (h : j.natAbs < 2 ^ 60) : rg1 [.int j] = some (rngL 0 j.toNat) := by
  show (if rng62 j = true then some (rngL 0 j.toNat) else none) = _
  rw [if_pos]
  unfold rng62
  rw [Bool.and_eq_true, decide_eq_true_eq, decide_eq_true_eq]
  omega
theorem rg2_i {i j : Int} (h : i.natAbs < 2 ^ 60) (h2 : j.natAbs < 2 ^ 60) : rg2 [.int i, .int j] = some (rngL i (j - i).toNat) := by
  show (if (rng62 i && rng62 j) = true then some (rngL i (j - i).toNat) else none) = _
  rw [if_pos]
  unfold rng62
  simp only [Bool.and_eq_true, decide_eq_true_eq]
  omega

/-! ### shapes, equality, membership -/
section
variable {i j : Int} {xs ys : List PyData} {d : PyData}
@[simp] theorem shaped_ap : SeqAt.shaped d = (d.canLay0 && decide (d.depth ≤ 64)) := rfl
@[simp] theorem lay_n : PyData.none.canLay0 = true := by simp only [PyData.canLay0]
@[simp] theorem lay_b {b : Bool} : (PyData.bool b).canLay0 = true := by simp only [PyData.canLay0]
@[simp] theorem lay_i : (PyData.int i).canLay0 = true := by simp only [PyData.canLay0]
@[simp] theorem lay_s {x : Str} : (PyData.str x).canLay0 = PyData.strOk x := by simp only [PyData.canLay0]
@[simp] theorem lay_l : (PyData.list xs).canLay0 = PyData.canLayAll0 xs := by simp only [PyData.canLay0]
@[simp] theorem lay_t : (PyData.tuple xs).canLay0 = PyData.canLayAll0 xs := by simp only [PyData.canLay0]
@[simp] theorem layA_nil : PyData.canLayAll0 [] = true := by simp only [PyData.canLayAll0]
@[simp] theorem layA_cons : PyData.canLayAll0 (d :: xs) = (d.canLay0 && PyData.canLayAll0 xs) := by simp only [PyData.canLayAll0]
@[simp] theorem layA_ints {ns : List Int} : PyData.canLayAll0 (ns.map .int) = true := by
  induction ns with
  | nil => simp
  | cons n ns ih => simp [ih]
@[simp] theorem dep_n : PyData.none.depth = 0 := by simp only [PyData.depth]
@[simp] theorem dep_b {b : Bool} : (PyData.bool b).depth = 0 := by simp only [PyData.depth]
@[simp] theorem dep_i : (PyData.int i).depth = 0 := by simp only [PyData.depth]
@[simp] theorem dep_s {x : Str} : (PyData.str x).depth = 0 := by simp only [PyData.depth]
@[simp] theorem dep_l : (PyData.list xs).depth = PyData.depthAll xs + 1 := by simp only [PyData.depth]
@[simp] theorem dep_t : (PyData.tuple xs).depth = PyData.depthAll xs + 1 := by simp only [PyData.depth]
@[simp] theorem depA_nil : PyData.depthAll [] = 0 := by simp only [PyData.depthAll]
@[simp] theorem depA_cons : PyData.depthAll (d :: xs) = max d.depth (PyData.depthAll xs) := by simp only [PyData.depthAll]
@[simp] theorem depA_ints {ns : List Int} : PyData.depthAll (ns.map .int) = 0 := by
  induction ns with
  | nil => simp
  | cons n ns ih => simp [ih]
@[simp] theorem eqv_i : PyData.eqv (.int i) (.int j) = decide (i = j) := by
  unfold PyData.eqv
  rfl
@[simp] theorem eqv_b {a b : Bool} : PyData.eqv (.bool a) (.bool b) = decide (a = b) := by
  unfold PyData.eqv
  cases a <;> cases b <;> rfl
@[simp] theorem eqv_t : PyData.eqv (.tuple xs) (.tuple ys) = PyData.eqvAll xs ys := by simp only [PyData.eqv]
@[simp] theorem eqv_l : PyData.eqv (.list xs) (.list ys) = PyData.eqvAll xs ys := by simp only [PyData.eqv]
@[simp] theorem eqvA_nil : PyData.eqvAll [] [] = true := by simp only [PyData.eqvAll]
@[simp] theorem eqvA_cons {e : PyData} : PyData.eqvAll (d :: xs) (e :: ys) = (d.eqv e && PyData.eqvAll xs ys) := by simp only [PyData.eqvAll]
@[simp] theorem eqvA_nc {e : PyData} : PyData.eqvAll [] (e :: ys) = false := by simp only [PyData.eqvAll]
@[simp] theorem eqvA_cn : PyData.eqvAll (d :: xs) [] = false := by simp only [PyData.eqvAll]
theorem eqvA_ints : ∀ {ns ms : List Int}, PyData.eqvAll (ns.map .int) (ms.map .int) = decide (ns = ms)
  | [], [] => by simp
  | [], _ :: _ => by simp
  | _ :: _, [] => by simp
  | n :: ns, m :: ms => by
    rw [List.map_cons, List.map_cons, eqvA_cons, eqvA_ints, eqv_i]
    by_cases h1 : n = m <;> by_cases h2 : ns = ms <;> simp [h1, h2]
mutual
theorem eqv_rfl : ∀ {d : PyData}, d.canLay0 = true → PyData.eqv d d = true
  | .none, _ => by simp only [PyData.eqv]
  | .bool b, _ => by simp
  | .int i, _ => by simp
  | .str x, _ => by
    simp only [PyData.eqv]
    exact beq_self_eq_true x
  | .list xs, h => by
    rw [lay_l] at h
    rw [eqv_l]
    exact eqvA_rfl h
  | .tuple xs, h => by
    rw [lay_t] at h
    rw [eqv_t]
    exact eqvA_rfl h
  | .dict _, h => by simp only [PyData.canLay0] at h; cases h
theorem eqvA_rfl : ∀ {ds : List PyData}, PyData.canLayAll0 ds = true → PyData.eqvAll ds ds = true
  | [], _ => by simp
  | x :: xs, h => by
    rw [layA_cons, Bool.and_eq_true] at h
    rw [eqvA_cons, eqv_rfl h.1, eqvA_rfl h.2]
    rfl
end
theorem eqD_t : eqD (.tuple xs) (.tuple ys) = if SeqAt.shaped (.tuple xs) && SeqAt.shaped (.tuple ys) then some (.bool (PyData.eqvAll xs ys)) else none := by
  unfold eqD eqB
  dsimp only
  split
  · rw [Option.map_some, eqv_t]
  · rfl
theorem neD_t : neD (.tuple xs) (.tuple ys) = if SeqAt.shaped (.tuple xs) && SeqAt.shaped (.tuple ys) then some (.bool (!PyData.eqvAll xs ys)) else none := by
  unfold neD eqB
  dsimp only
  split
  · rw [Option.map_some, eqv_t]
  · rfl
theorem eqD_l : eqD (.list xs) (.list ys) = if SeqAt.shaped (.list xs) && SeqAt.shaped (.list ys) then some (.bool (PyData.eqvAll xs ys)) else none := by
  unfold eqD eqB
  dsimp only
  split
  · rw [Option.map_some, eqv_l]
  · rfl
theorem neD_l : neD (.list xs) (.list ys) = if SeqAt.shaped (.list xs) && SeqAt.shaped (.list ys) then some (.bool (!PyData.eqvAll xs ys)) else none := by
  unfold neD eqB
  dsimp only
  split
  · rw [Option.map_some, eqv_l]
  · rfl
@[simp] theorem eqD_s {x y : Str} : eqD (.str x) (.str y) = some (.bool (decide (x = y))) := rfl
@[simp] theorem neD_s {x y : Str} : neD (.str x) (.str y) = some (.bool (!decide (x = y))) := rfl
theorem neD_same (h : SeqAt.shaped d = true) : neD d d = some (.bool false) := by
  have h2 := h
  rw [shaped_ap, Bool.and_eq_true] at h2
  unfold neD eqB
  cases d with
  | str x => simp
  | _ => simp only [h, Bool.and_self, if_true, Option.map_some, eqv_rfl h2.1, Bool.not_true]
theorem eqD_same (h : SeqAt.shaped d = true) : eqD d d = some (.bool true) := by
  have h2 := h
  rw [shaped_ap, Bool.and_eq_true] at h2
  unfold eqD eqB
  cases d with
  | str x => simp
  | _ => simp only [h, Bool.and_self, if_true, Option.map_some, eqv_rfl h2.1]
@[simp] theorem inD_t : inD d (.tuple xs) = if SeqAt.shaped d && SeqAt.shaped (.tuple xs) then some (.bool (xs.any fun z => PyData.eqv z d)) else none := by
  show (if SeqAt.shaped d && SeqAt.shaped (.tuple xs) then some (xs.any fun z => PyData.eqv z d) else none).map PyData.bool = _
  split <;> rfl
@[simp] theorem inD_l : inD d (.list xs) = if SeqAt.shaped d && SeqAt.shaped (.list xs) then some (.bool (xs.any fun z => PyData.eqv z d)) else none := by
  show (if SeqAt.shaped d && SeqAt.shaped (.list xs) then some (xs.any fun z => PyData.eqv z d) else none).map PyData.bool = _
  split <;> rfl
@[simp] theorem notInD_t : notInD d (.tuple xs) = if SeqAt.shaped d && SeqAt.shaped (.tuple xs) then some (.bool (!(xs.any fun z => PyData.eqv z d))) else none := by
  show (if SeqAt.shaped d && SeqAt.shaped (.tuple xs) then some (xs.any fun z => PyData.eqv z d) else none).map (fun b => PyData.bool (!b)) = _
  split <;> rfl
@[simp] theorem notInD_l : notInD d (.list xs) = if SeqAt.shaped d && SeqAt.shaped (.list xs) then some (.bool (!(xs.any fun z => PyData.eqv z d))) else none := by
  show (if SeqAt.shaped d && SeqAt.shaped (.list xs) then some (xs.any fun z => PyData.eqv z d) else none).map (fun b => PyData.bool (!b)) = _
  split <;> rfl
theorem boolsOf_bools : ∀ bs : List Bool, boolsOf (bs.map .bool) = some bs
  | [] => rfl
  | b :: bs => by
    rw [List.map_cons]
    unfold boolsOf
    rw [boolsOf_bools bs]
theorem allD_bools {bs : List Bool} : allD [.list (bs.map .bool)] = some (.bool (bs.all id)) := by
  show (match boolsOf (bs.map .bool) with | some ns => some (PyData.bool (ns.all id)) | none => none) = _
  rw [boolsOf_bools]
theorem sumD_ints {ns : List Int} : sumD [.list (ns.map .int)] = some (.int ns.sum) := by
  show (match intsOf (ns.map .int) with | some ns => some (PyData.int ns.sum) | none => none) = _
  rw [intsOf_map]
@[simp] theorem itsOf_n : itsOf .none = none := rfl
end

theorem loopB_nx {g : St1} {body : B} {d : PyData} {r : List PyData} {e e1 e2 : Ev} (h1 : g d e = some e1) (h2 : body e1 = some (.nx e2)) : loopB g body (d :: r) e = loopB g body r e2 := by
  conv => lhs; unfold loopB
  rw [h1]
  dsimp only
  rw [h2]
theorem loopB_ct {g : St1} {body : B} {d : PyData} {r : List PyData} {e e1 e2 : Ev} (h1 : g d e = some e1) (h2 : body e1 = some (.ct e2)) : loopB g body (d :: r) e = loopB g body r e2 := by
  conv => lhs; unfold loopB
  rw [h1]
  dsimp only
  rw [h2]
theorem loopB_rt {g : St1} {body : B} {d x : PyData} {r : List PyData} {e e1 e2 : Ev} (h1 : g d e = some e1) (h2 : body e1 = some (.rt x e2)) : loopB g body (d :: r) e = some (.rt x e2) := by
  conv => lhs; unfold loopB
  rw [h1]
  dsimp only
  rw [h2]
@[simp] theorem loopB_nil {g : St1} {body : B} {e : Ev} : loopB g body [] e = some (.nx e) := rfl

theorem cutD_from {ds : List PyData} {k : Int} (h : 0 ≤ k) : cutD ds (some k) none = ds.drop k.toNat := by
  obtain ⟨n, rfl⟩ := Int.eq_ofNat_of_zero_le h
  unfold cutD
  rw [show HT.sIx ds.length 0 (some (n : Int)) = min n ds.length from HT.sIx_nat _ _ _, HT.sIx_none, Int.toNat_natCast]
  rw [List.take_of_length_le (by rw [List.length_drop]; omega)]
  by_cases hn : n ≤ ds.length
  · rw [Nat.min_eq_left hn]
  · rw [Nat.min_eq_right (by omega), List.drop_length, List.drop_eq_nil_of_le (by omega)]
theorem cutD_to {ds : List PyData} {k : Int} (h : 0 ≤ k) : cutD ds none (some k) = ds.take k.toNat := by
  obtain ⟨n, rfl⟩ := Int.eq_ofNat_of_zero_le h
  unfold cutD
  rw [show HT.sIx ds.length ds.length (some (n : Int)) = min n ds.length from HT.sIx_nat _ _ _, HT.sIx_none, Int.toNat_natCast, List.drop_zero, Nat.sub_zero]
  by_cases hn : n ≤ ds.length
  · rw [Nat.min_eq_left hn]
  · rw [Nat.min_eq_right (by omega), List.take_length, List.take_of_length_le (by omega)]
theorem cutD_m1 {ds : List PyData} : cutD ds none (some (-1)) = ds.dropLast := by
  unfold cutD
  rw [show HT.sIx ds.length ds.length (some (-1)) = ((-1 : Int) + (ds.length : Int)).toNat from rfl, HT.sIx_none, List.drop_zero, List.dropLast_eq_take]
  congr 1
  omega
@[simp] theorem sliceD_l {lo hi : Option Int} {ds : List PyData} : sliceD lo hi (.list ds) = some (.list (cutD ds lo hi)) := rfl
@[simp] theorem sliceD_t {lo hi : Option Int} {ds : List PyData} : sliceD lo hi (.tuple ds) = some (.tuple (cutD ds lo hi)) := rfl
@[simp] theorem tyD_i {i : Int} : tyD (.int i) = "int" := rfl
@[simp] theorem tyD_b {b : Bool} : tyD (.bool b) = "bool" := rfl
@[simp] theorem tyD_t {xs : List PyData} : tyD (.tuple xs) = "tuple" := rfl
@[simp] theorem tyD_l {xs : List PyData} : tyD (.list xs) = "list" := rfl
@[simp] theorem tyD_s {x : Str} : tyD (.str x) = "str" := rfl
@[simp] theorem tyD_n : tyD .none = "NoneType" := rfl
@[simp] theorem tyD_d {kvs : List (PyData × PyData)} : tyD (.dict kvs) = "dict" := rfl
@[simp] theorem isiOk_int : isiOk "int" = true := rfl
@[simp] theorem isiOk_bool : isiOk "bool" = true := rfl
@[simp] theorem isiOk_tuple : isiOk "tuple" = true := rfl
@[simp] theorem isiOk_list : isiOk "list" = true := rfl
@[simp] theorem isiOk_str : isiOk "str" = true := rfl
@[simp] theorem isiOk_dict : isiOk "dict" = true := rfl
def isInt : PyData → Bool
  | .int _ => true
  | .bool _ => true
  | _ => false
def isBool : PyData → Bool
  | .bool _ => true
  | _ => false
def isTup : PyData → Bool
  | .tuple _ => true
  | _ => false
@[simp] theorem isi_int {d : PyData} : isiT (tyD d) "int" = isInt d := by cases d <;> rfl
@[simp] theorem isi_bool {d : PyData} : isiT (tyD d) "bool" = isBool d := by cases d <;> rfl
@[simp] theorem isi_tuple {d : PyData} : isiT (tyD d) "tuple" = isTup d := by cases d <;> rfl
@[simp] theorem isInt_i {i : Int} : isInt (.int i) = true := rfl
@[simp] theorem isInt_b {i : Bool} : isInt (.bool i) = true := rfl
@[simp] theorem isInt_t {xs : List PyData} : isInt (.tuple xs) = false := rfl
@[simp] theorem isInt_l {xs : List PyData} : isInt (.list xs) = false := rfl
@[simp] theorem isInt_s {xs : Str} : isInt (.str xs) = false := rfl
@[simp] theorem isInt_n : isInt .none = false := rfl
@[simp] theorem isInt_d {kvs : List (PyData × PyData)} : isInt (.dict kvs) = false := rfl
@[simp] theorem isBool_i {i : Int} : isBool (.int i) = false := rfl
@[simp] theorem isBool_b {i : Bool} : isBool (.bool i) = true := rfl
@[simp] theorem isBool_t {xs : List PyData} : isBool (.tuple xs) = false := rfl
@[simp] theorem isBool_l {xs : List PyData} : isBool (.list xs) = false := rfl
@[simp] theorem isBool_s {xs : Str} : isBool (.str xs) = false := rfl
@[simp] theorem isBool_n : isBool .none = false := rfl
@[simp] theorem isTup_i {i : Int} : isTup (.int i) = false := rfl
@[simp] theorem isTup_b {i : Bool} : isTup (.bool i) = false := rfl
@[simp] theorem isTup_t {xs : List PyData} : isTup (.tuple xs) = true := rfl
@[simp] theorem isTup_l {xs : List PyData} : isTup (.list xs) = false := rfl
@[simp] theorem isTup_s {xs : Str} : isTup (.str xs) = false := rfl
@[simp] theorem isTup_n : isTup .none = false := rfl
@[simp] theorem isTup_d {kvs : List (PyData × PyData)} : isTup (.dict kvs) = false := rfl

@[simp] theorem allD_rep {n : Nat} : allD [.list (List.replicate n (.bool true))] = some (.bool true) := by
  rw [← List.map_replicate (f := PyData.bool), allD_bools]
  simp

/-! ### one of some, drawn -/
def mmOf : List PyData → Option (PyData × List PyData) := mDef .frz [.src, .frz] 2
  (sRet (mBin itemD (mVal (mVar 1)) (mVal (mCallS .frz .src mmPick 0 1 (mA (mVal (mCallB lenD (mA (mVal (mVar 1)) mA0))) mA0)))))
theorem atI_lt {ds : List PyData} {r : Int} (h0 : 0 ≤ r) (h1 : r < ds.length) : ∃ d, atI ds r = some d ∧ d ∈ ds := by
  have hj : r.toNat < ds.length := by omega
  refine ⟨ds[r.toNat], ?_, List.getElem_mem hj⟩
  have := atI_nat (List.getElem?_eq_getElem hj)
  rwa [Int.toNat_of_nonneg h0] at this
theorem of_ex (s : Src) {ds : List PyData} (h : ds ≠ []) (hl : ds.length < 1000000) : ∃ d s', d ∈ ds ∧ mmOf [srcDt s, .list ds] = some (d, [srcDt s', .list ds]) := by
  obtain ⟨r, s', h1, h2, h3⟩ := pick_ex s (ds.length : Int) (by omega)
  have hp : 0 < ds.length := List.length_pos_iff.mpr h
  obtain ⟨d, g1, g2⟩ := atI_lt h2 (show r < ds.length by omega)
  refine ⟨d, s', g2, ?_⟩
  simp [mmOf, mDef, finB, outsOf, h1, g1]
theorem of_ex_t (s : Src) {ds : List PyData} (h : ds ≠ []) (hl : ds.length < 1000000) : ∃ d s', d ∈ ds ∧ mmOf [srcDt s, .tuple ds] = some (d, [srcDt s', .tuple ds]) := by
  obtain ⟨r, s', h1, h2, h3⟩ := pick_ex s (ds.length : Int) (by omega)
  have hp : 0 < ds.length := List.length_pos_iff.mpr h
  obtain ⟨d, g1, g2⟩ := atI_lt h2 (show r < ds.length by omega)
  refine ⟨d, s', g2, ?_⟩
  simp [mmOf, mDef, finB, outsOf, h1, g1]
@[simp] theorem immK_frz {d : PyData} : immK .frz d = imm d := rfl

theorem loopB_ixs {g : St1} {body : B} (R : Nat → Ev → Prop) : ∀ (ds : List PyData) (i : Nat) (e : Ev), R i e → (∀ k d, ds[k]? = some d → ∀ e, R (i + k) e → ∃ e1 e2, g d e = some e1 ∧ (body e1 = some (.nx e2) ∨ body e1 = some (.ct e2)) ∧ R (i + k + 1) e2) →
    ∃ e', loopB g body ds e = some (.nx e') ∧ R (i + ds.length) e'
  | [], i, e, h, _ => ⟨e, rfl, h⟩
  | d :: ds, i, e, h, H => by
    obtain ⟨e1, e2, h1, h2, h3⟩ := H 0 d rfl e h
    obtain ⟨e', h4, h5⟩ := loopB_ixs R ds (i + 1) e2 h3 fun k d' hk e he => by
      have := H (k + 1) d' (by simpa using hk) e (by rw [show i + (k + 1) = i + 1 + k by omega]; exact he)
      rwa [show i + (k + 1) + 1 = i + 1 + k + 1 by omega] at this
    refine ⟨e', ?_, by rw [List.length_cons, show i + (ds.length + 1) = i + 1 + ds.length by omega]; exact h5⟩
    rcases h2 with h2 | h2
    · exact (loopB_nx h1 h2).trans h4
    · exact (loopB_ct h1 h2).trans h4
/-- over the items, from the first; the place is told -/
theorem loopB_ix {g : St1} {body : B} {ds : List PyData} {e : Ev} (R : Nat → Ev → Prop) (h : R 0 e) (H : ∀ k d, ds[k]? = some d → ∀ e, R k e → ∃ e1 e2, g d e = some e1 ∧ (body e1 = some (.nx e2) ∨ body e1 = some (.ct e2)) ∧ R (k + 1) e2) : ∃ e', loopB g body ds e = some (.nx e') ∧ R ds.length e' := by
  have := loopB_ixs (g := g) (body := body) R ds 0 e h fun k d hk e he => by
    have := H k d hk e (by rw [Nat.zero_add] at he; exact he)
    rwa [← Nat.zero_add k] at this
  rwa [Nat.zero_add] at this
@[simp] theorem rngL_len {lo : Int} {n : Nat} : (rngL lo n).length = n := by simp [rngL]

section
variable {xs ys : List PyData} {d : PyData} {ns : List Int}
@[simp] theorem okD_i {i : Int} : okD (.int i) = decide (i.natAbs < 2 ^ 64) := by simp only [okD]
@[simp] theorem okD_b {b : Bool} : okD (.bool b) = true := by simp only [okD]
@[simp] theorem okD_n : okD .none = true := by simp only [okD]
@[simp] theorem okD_s {x : Str} : okD (.str x) = true := by simp only [okD]
@[simp] theorem okD_t : okD (.tuple xs) = okA xs := by simp only [okD]
@[simp] theorem okD_l : okD (.list xs) = okA xs := by simp only [okD]
@[simp] theorem okA_nil : okA [] = true := by simp only [okA]
@[simp] theorem okA_cons : okA (d :: xs) = (okD d && okA xs) := by simp only [okA]
@[simp] theorem okA_app : okA (xs ++ ys) = (okA xs && okA ys) := by
  induction xs with
  | nil => simp
  | cons x xs ih => simp [ih, Bool.and_assoc]
theorem okA_ints (h : ∀ n ∈ ns, n.natAbs < 2 ^ 64) : okA (ns.map .int) = true := by
  induction ns with
  | nil => simp
  | cons n ns ih =>
    rw [List.map_cons, okA_cons, okD_i, decide_eq_true (h n (by simp)), ih fun m hm => h m (by simp [hm])]
    rfl
@[simp] theorem sz_i {i : Int} : sz (.int i) = 70 := by simp only [sz]
@[simp] theorem sz_b {b : Bool} : sz (.bool b) = 5 := by simp only [sz]
@[simp] theorem sz_n : sz .none = 4 := by simp only [sz]
@[simp] theorem sz_s {x : Str} : sz (.str x) = (reprText x).length := by simp only [sz]
@[simp] theorem sz_t : sz (.tuple xs) = szA xs + 3 := by simp only [sz]
@[simp] theorem sz_l : sz (.list xs) = szA xs + 3 := by simp only [sz]
@[simp] theorem szA_nil : szA [] = 0 := by simp only [szA]
@[simp] theorem szA_cons : szA (d :: xs) = sz d + 2 + szA xs := by simp only [szA]
@[simp] theorem szA_app : szA (xs ++ ys) = szA xs + szA ys := by
  induction xs with
  | nil => simp
  | cons x xs ih => simp [ih]; omega
@[simp] theorem szA_ints : szA (ns.map .int) = 72 * ns.length := by
  induction ns with
  | nil => simp
  | cons n ns ih => simp [ih]; omega
theorem len_szA : 2 * xs.length ≤ szA xs := by
  induction xs with
  | nil => simp
  | cons x xs ih => simp; omega
@[simp] theorem layA_app : PyData.canLayAll0 (xs ++ ys) = (PyData.canLayAll0 xs && PyData.canLayAll0 ys) := by
  induction xs with
  | nil => simp
  | cons x xs ih => simp [ih, Bool.and_assoc]
@[simp] theorem depA_app : PyData.depthAll (xs ++ ys) = max (PyData.depthAll xs) (PyData.depthAll ys) := by
  induction xs with
  | nil => simp
  | cons x xs ih => simp [ih, Nat.max_assoc]
end
/-- small and plain data -/
structure Fine (d : PyData) (n m : Nat) : Prop where
  ok : okD d = true
  lay : d.canLay0 = true
  size : sz d ≤ n
  dep : d.depth ≤ m
theorem Fine.repr {d : PyData} {n m : Nat} (h : Fine d n m) (hn : n ≤ 16777216) (hm : m ≤ 60) : reprOk d = true := reprOk_of h.ok (Nat.le_trans h.size hn) (Nat.le_trans h.dep hm)
theorem Fine.shaped {d : PyData} {n m : Nat} (h : Fine d n m) (hm : m ≤ 64) : SeqAt.shaped d = true := by
  rw [shaped_ap, h.lay, decide_eq_true (Nat.le_trans h.dep hm)]
  rfl

theorem seq_nx {m n : B} {e e1 : Ev} (h : m e = some (.nx e1)) : sSeq m n e = n e1 := by
  rw [sSeq_ap, h]
theorem seq_rt {m n : B} {e e1 : Ev} {d : PyData} (h : m e = some (.rt d e1)) : sSeq m n e = some (.rt d e1) := by
  rw [sSeq_ap, h]
end DL

namespace K43
open PySem PySem.Spec PyProof.Rows L2 DL
/-! ### law_k43_whole_words_and_built_nets: the text -/
def topS (i : Nat) : Stmt := PySem.Challenge.pw_lacednets_k43_whole_words_and_built_nets.main.body.getD i (.Pass ⟨0, 0, 0, 0⟩)
/-! ### mirrors -/
abbrev s_sign_of_letter : Stmt := topS 1
def m_sign_of_letter : List PyData → Option (PyData × List PyData) := mDef .frz [.frz] 1
  (sRet (mIf (mTest (mBin gtD (mVal (mVar 0)) (mVal (ret (.int 0))))) (ret (.int 1)) (mUn negD (mVal (ret (.int 1))))))
abbrev s_is_build_word : Stmt := topS 2
def c0_is_build_word : M PyData := mComp (mIt (mVar 0)) (gNm 1) mYes (mAndV (mIsi "int" (mVal (mVar 1))) (mAndV (mNotV (mIsi "bool" (mVal (mVar 1)))) (mBin inD (mVal (mVar 1)) (mVal (mTup (mA (mVal (ret (.int 1))) (mA (mVal (mUn negD (mVal (ret (.int 1))))) (mA (mVal (ret (.int 2))) (mA (mVal (mUn negD (mVal (ret (.int 2))))) mA0))))))))) [1]
def m_is_build_word : List PyData → Option (PyData × List PyData) := mDef .frz [.frz] 2
  (sSeq (sIf (mNot (mTest (mIsi "tuple" (mVal (mVar 0)))))
  (sRet (ret (.bool false)))
  sNx)
  (sRet (mCallB allD (mA (mVal c0_is_build_word) mA0))))
abbrev s_is_build_state : Stmt := topS 3
def m_is_build_state : List PyData → Option (PyData × List PyData) := mDef .frz [.frz] 1
  (sSeq (sIf (mOr (mNot (mTest (mIsi "tuple" (mVal (mVar 0))))) (mOr (mTest (mBin neD (mVal (mCallB lenD (mA (mVal (mVar 0)) mA0))) (mVal (ret (.int 2))))) (mNot (mTest (mCall .frz 1 m_is_build_word (mA (mVal (mBin itemD (mVal (mVar 0)) (mVal (ret (.int 1))))) mA0))))))
  (sRet (ret (.bool false)))
  sNx)
  (sRet (mAndV (mIsi "int" (mVal (mBin itemD (mVal (mVar 0)) (mVal (ret (.int 0)))))) (mAndV (mNotV (mIsi "bool" (mVal (mBin itemD (mVal (mVar 0)) (mVal (ret (.int 0))))))) (mBin inD (mVal (mBin itemD (mVal (mVar 0)) (mVal (ret (.int 0))))) (mVal (mTup (mA (mVal (ret (.int 0))) (mA (mVal (ret (.int 1))) mA0)))))))))
abbrev s_built_net : Stmt := topS 4
def b0_built_net : B := (sIf (mTest (mBin eqD (mVal (mCallB absD (mA (mVal (mVar 1)) mA0))) (mVal (ret (.int 2)))))
  (sSeq (sExpr (mApp 5 (mTup (mA (mVal (mBin subD (mVal (mVar 4)) (mVal (ret (.int 1))))) (mA (mVal (mVar 4)) mA0)))))
  (sAug 4 iaddD (ret (.int 1))))
  (sExpr (mApp 5 (mTup (mA (mVal (ret (.int 0))) (mA (mVal (mBin subD (mVal (mVar 4)) (mVal (ret (.int 1))))) mA0))))))
def c0_built_net : M PyData := mComp (mIt (mVar 3)) (gNm 1) mYes (mCall .frz 1 m_sign_of_letter (mA (mVal (mVar 1)) mA0)) [1]
def m_built_net : List PyData → Option (PyData × List PyData) := mDef .frz [.frz] 6
  (sSeq (sAsg (mVar 0) (gTp 2 (gCn (gNm 2) (gCn (gNm 3) gNl))))
  (sSeq (sParK [4, 5] (mF (mBin subD (mVal (ret (.int 2))) (mVal (mVar 2))) (mF (mLst mA0) mF0)))
  (sSeq (sFor (mIt (mVar 3)) (gNm 1) b0_built_net)
  (sRet (mTup (mA (mVal (mVar 4)) (mA (mVal (mCallB tupleD (mA (mSlot 5) mA0))) (mA (mVal (mCallB tupleD (mA (mVal c0_built_net) mA0))) (mA (mVal (mTup (mA (mVal (ret (.int 0))) (mA (mVal (mBin subD (mVal (mVar 4)) (mVal (ret (.int 1))))) mA0)))) mA0)))))))))
abbrev s_is_whole_number : Stmt := topS 6
def m_is_whole_number : List PyData → Option (PyData × List PyData) := mDef .frz [.frz] 1
  (sRet (mAndV (mIsi "int" (mVal (mVar 0))) (mNotV (mIsi "bool" (mVal (mVar 0))))))
abbrev s_is_below : Stmt := topS 7
def m_is_below : List PyData → Option (PyData × List PyData) := mDef .frz [.frz, .frz] 2
  (sRet (mAndV (mCall .frz 1 m_is_whole_number (mA (mVal (mVar 0)) mA0)) (mChain leD ltD (mVal (ret (.int 0))) (mVal (mVar 0)) (mVal (mVar 1)))))
abbrev s_is_sign : Stmt := topS 8
def m_is_sign : List PyData → Option (PyData × List PyData) := mDef .frz [.frz] 1
  (sRet (mAndV (mCall .frz 1 m_is_whole_number (mA (mVal (mVar 0)) mA0)) (mBin inD (mVal (mVar 0)) (mVal (mTup (mA (mVal (ret (.int 1))) (mA (mVal (mUn negD (mVal (ret (.int 1))))) mA0)))))))
abbrev s_is_signed_net : Stmt := topS 9
def c0_is_signed_net : M PyData := mComp (mIt (mSl (mVal (mVar 0)) (mPart (ret (.int 1))) mNoPart)) (gNm 3) mYes (mIsi "tuple" (mVal (mVar 3))) [3]
def c1_is_signed_net : M PyData := mComp (mIt (mVar 1)) (gNm 2) mYes (mCall .frz 2 m_is_below (mA (mVal (mVar 2)) (mA (mVal (mBin itemD (mVal (mVar 0)) (mVal (ret (.int 0))))) mA0))) [2]
def b0_is_signed_net : B := (sSeq (sIf (mOr (mNot (mTest (mIsi "tuple" (mVal (mVar 1))))) (mOr (mTest (mBin neD (mVal (mCallB lenD (mA (mVal (mVar 1)) mA0))) (mVal (ret (.int 2))))) (mNot (mTest (mCallB allD (mA (mVal c1_is_signed_net) mA0))))))
  (sRet (ret (.bool false)))
  sNx)
  (sIf (mTest (mBin gtD (mVal (mBin itemD (mVal (mVar 1)) (mVal (ret (.int 0))))) (mVal (mBin itemD (mVal (mVar 1)) (mVal (ret (.int 1)))))))
  (sRet (ret (.bool false)))
  sNx))
def c2_is_signed_net : M PyData := mComp (mIt (mBin itemD (mVal (mVar 0)) (mVal (ret (.int 2))))) (gNm 2) mYes (mCall .frz 1 m_is_sign (mA (mVal (mVar 2)) mA0)) [2]
def c3_is_signed_net : M PyData := mComp (mIt (mBin itemD (mVal (mVar 0)) (mVal (ret (.int 3))))) (gNm 2) mYes (mCall .frz 2 m_is_below (mA (mVal (mVar 2)) (mA (mVal (mBin itemD (mVal (mVar 0)) (mVal (ret (.int 0))))) mA0))) [2]
def m_is_signed_net : List PyData → Option (PyData × List PyData) := mDef .frz [.frz] 4
  (sSeq (sIf (mOr (mNot (mTest (mIsi "tuple" (mVal (mVar 0))))) (mOr (mTest (mBin neD (mVal (mCallB lenD (mA (mVal (mVar 0)) mA0))) (mVal (ret (.int 4))))) (mOr (mNot (mTest (mCall .frz 1 m_is_whole_number (mA (mVal (mBin itemD (mVal (mVar 0)) (mVal (ret (.int 0))))) mA0)))) (mTest (mBin ltD (mVal (mBin itemD (mVal (mVar 0)) (mVal (ret (.int 0))))) (mVal (ret (.int 1))))))))
  (sRet (ret (.bool false)))
  sNx)
  (sSeq (sIf (mOr (mNot (mTest (mCallB allD (mA (mVal c0_is_signed_net) mA0)))) (mTest (mBin neD (mVal (mCallB lenD (mA (mVal (mBin itemD (mVal (mVar 0)) (mVal (ret (.int 1))))) mA0))) (mVal (mCallB lenD (mA (mVal (mBin itemD (mVal (mVar 0)) (mVal (ret (.int 2))))) mA0))))))
  (sRet (ret (.bool false)))
  sNx)
  (sSeq (sFor (mIt (mBin itemD (mVal (mVar 0)) (mVal (ret (.int 1))))) (gNm 1) b0_is_signed_net)
  (sRet (mAndV (mCallB allD (mA (mVal c2_is_signed_net) mA0)) (mCallB allD (mA (mVal c3_is_signed_net) mA0)))))))
abbrev s__law_source : Stmt := topS 11
def b0_law_source : B := (sAsg (mBin modD (mVal (mCallB intD (mA (mVal (mBin addD (mVal (mBin addD (mVal (mBin mulD (mVal (mVar 1)) (mVal (ret (.int 69069))))) (mVal (mBin mulD (mVal (mVar 2)) (mVal (ret (.int 31))))))) (mVal (ret (.int 5))))) mA0))) (mVal (ret (.int 2147483629)))) (gNm 1))
def c0_law_source : M PyData := mComp (mIt (mVar 0)) (gNm 2) mYes (mCallB absD (mA (mVal (mVar 2)) mA0)) [2]
def m_law_source : List PyData → Option (PyData × List PyData) := mDef .src [.frz] 3
  (sSeq (sAsg (ret (.int 11)) (gNm 1))
  (sSeq (sFor (mIt (mVar 0)) (gNm 2) b0_law_source)
  (sRet (mSrcNew (mUn revD (mVal c0_law_source)) (ret (.int 1)) (mVar 1) (ret (.int 0))))))
abbrev s__law_pick : Stmt := topS 12
def b0_law_pick : B := (sSrcPut 0 .left (mSrcPop 0))
def m_law_pick : List PyData → Option (PyData × List PyData) := mDef .frz [.src, .frz] 4
  (sSeq (sWhile (srcFuel 0) (mAnd (mTest (mBin gtD (mVal (mVar 1)) (mVal (ret (.int 1))))) (mAnd (mTest (mBin ltD (mVal (mSrcGet 0 .left)) (mVal (ret (.int 2))))) (mTest (mBin gtD (mVal (mSrcLen 0)) (mVal (ret (.int 0))))))) b0_law_pick)
  (sSeq (sAsg (mSrcGet 0 .left) (gNm 2))
  (sSeq (sIf (mOr (mTest (mBin ltD (mVal (mVar 1)) (mVal (ret (.int 2))))) (mTest (mBin gtD (mVal (mVar 2)) (mVal (ret (.int 1))))))
  (sSeq (sSrcPut 0 .left (mBin fdivD (mVal (mVar 2)) (mVal (mCallB max2D (mA (mVal (ret (.int 1))) (mA (mVal (mVar 1)) mA0))))))
  (sRet (mBin modD (mVal (mCallB intD (mA (mVal (mVar 2)) mA0))) (mVal (mCallB max2D (mA (mVal (ret (.int 1))) (mA (mVal (mVar 1)) mA0)))))))
  sNx)
  (sSeq (sSrcPut 0 .turn (mBin addD (mVal (mSrcGet 0 .turn)) (mVal (ret (.int 1)))))
  (sSeq (sAsg (mBin modD (mVal (mCallB intD (mA (mVal (mBin addD (mVal (mSrcGet 0 .mixed)) (mVal (mBin mulD (mVal (mSrcGet 0 .turn)) (mVal (ret (.int 104729))))))) mA0))) (mVal (ret (.int 998244353)))) (gNm 3))
  (sSeq (sAsg (mBin modD (mVal (mCallB intD (mA (mVal (mBin addD (mVal (mBin mulD (mVal (mVar 3)) (mVal (mVar 3)))) (mVal (mBin mulD (mVal (mSrcGet 0 .turn)) (mVal (ret (.int 17))))))) mA0))) (mVal (ret (.int 2147483647)))) (gNm 3))
  (sSeq (sSrcPut 0 .mixed (mVar 3))
  (sRet (mBin modD (mVal (mCallB intD (mA (mVal (mBin fdivD (mVal (mVar 3)) (mVal (ret (.int 16))))) mA0))) (mVal (mVar 1)))))))))))
abbrev s__law_of : Stmt := topS 13
def m_law_of : List PyData → Option (PyData × List PyData) := mDef .frz [.src, .frz] 2
  (sRet (mBin itemD (mVal (mVar 1)) (mVal (mCallS .frz .src m_law_pick 0 1 (mA (mVal (mCallB lenD (mA (mVal (mVar 1)) mA0))) mA0)))))
abbrev s__law_sign : Stmt := topS 14
def m_law_sign : List PyData → Option (PyData × List PyData) := mDef .frz [.frz] 1
  (sRet (mIf (mTest (mBin gtD (mVal (mVar 0)) (mVal (ret (.int 0))))) (ret (.int 1)) (mUn negD (mVal (ret (.int 1))))))
abbrev s__law_state : Stmt := topS 15
def b0_law_state : B := (sSeq (sAsg (mCallS .frz .src m_law_of 0 1 (mA (mVal (mLst (mA (mVal (ret (.int 1))) (mA (mVal (mUn negD (mVal (ret (.int 1))))) (mA (mVal (ret (.int 2))) (mA (mVal (mUn negD (mVal (ret (.int 2))))) mA0)))))) mA0)) (gNm 6))
  (sSeq (sIf (mAnd (mTest (mBin eqD (mVal (mVar 5)) (mVal (ret (.int 0))))) (mAnd (mTest (mBin neD (mVal (mVar 4)) (mVal (mTup mA0)))) (mTest (mBin gtD (mVal (mCallS .frz .src m_law_pick 0 1 (mA (mVal (ret (.int 3))) mA0))) (mVal (ret (.int 0)))))))
  (sAsg (mBin mulD (mVal (mCallB absD (mA (mVal (mVar 6)) mA0))) (mVal (mCall .frz 1 m_law_sign (mA (mVal (mBin itemD (mVal (mVar 4)) (mVal (mUn negD (mVal (ret (.int 1))))))) mA0)))) (gNm 6))
  sNx)
  (sAsg (mBin addD (mVal (mVar 4)) (mVal (mTup (mA (mVal (mVar 6)) mA0)))) (gNm 4))))
def m_law_state : List PyData → Option (PyData × List PyData) := mDef .frz [.src, .frz] 7
  (sSeq (sParK [3, 4, 5] (mF (mBin fdivD (mVal (mCallS .frz .src m_law_pick 0 1 (mA (mVal (ret (.int 4))) mA0))) (mVal (ret (.int 3)))) (mF (mTup mA0) (mF (mCallS .frz .src m_law_pick 0 1 (mA (mVal (ret (.int 3))) mA0)) mF0))))
  (sSeq (sFor (mRng rg1 (mA (mVal (mCallS .frz .src m_law_pick 0 1 (mA (mVal (mBin addD (mVal (mVar 1)) (mVal (ret (.int 1))))) mA0))) mA0)) (gNm 2) b0_law_state)
  (sRet (mTup (mA (mVal (mVar 3)) (mA (mVal (mVar 4)) mA0))))))
abbrev s__law_net : Stmt := topS 16
def b0_law_net : B := (sSeq (sIf (mTest (mBin inD (mVal (mVar 1)) (mVal (mTup (mA (mVal (ret (.int 2))) (mA (mVal (mUn negD (mVal (ret (.int 2))))) mA0))))))
  (sSeq (sAsg (mBin addD (mVal (mVar 2)) (mVal (ret (.int 1)))) (gNm 2))
  (sExpr (mApp 3 (mTup (mA (mVal (mBin subD (mVal (mVar 2)) (mVal (ret (.int 2))))) (mA (mVal (mBin subD (mVal (mVar 2)) (mVal (ret (.int 1))))) mA0))))))
  (sExpr (mApp 3 (mTup (mA (mVal (ret (.int 0))) (mA (mVal (mBin subD (mVal (mVar 2)) (mVal (ret (.int 1))))) mA0))))))
  (sExpr (mApp 4 (mCall .frz 1 m_law_sign (mA (mVal (mVar 1)) mA0)))))
def m_law_net : List PyData → Option (PyData × List PyData) := mDef .frz [.frz] 5
  (sSeq (sParK [2, 3, 4] (mF (mBin subD (mVal (ret (.int 2))) (mVal (mBin itemD (mVal (mVar 0)) (mVal (ret (.int 0)))))) (mF (mLst mA0) (mF (mLst mA0) mF0))))
  (sSeq (sFor (mIt (mBin itemD (mVal (mVar 0)) (mVal (ret (.int 1))))) (gNm 1) b0_law_net)
  (sRet (mTup (mA (mVal (mVar 2)) (mA (mVal (mCallB tupleD (mA (mSlot 3) mA0))) (mA (mVal (mCallB tupleD (mA (mSlot 4) mA0))) (mA (mVal (mTup (mA (mVal (ret (.int 0))) (mA (mVal (mBin subD (mVal (mVar 2)) (mVal (ret (.int 1))))) mA0)))) mA0))))))))
abbrev s__law_is_state : Stmt := topS 17
def c0_law_is_state : M PyData := mComp (mIt (mBin addD (mVal (mTup (mA (mVal (mBin itemD (mVal (mVar 0)) (mVal (ret (.int 0))))) mA0))) (mVal (mBin itemD (mVal (mVar 0)) (mVal (ret (.int 1))))))) (gNm 2) (mOr (mNot (mTest (mIsi "int" (mVal (mVar 2))))) (mTest (mIsi "bool" (mVal (mVar 2))))) (mVar 2) [2]
def c1_law_is_state : M PyData := mComp (mIt (mBin itemD (mVal (mVar 0)) (mVal (ret (.int 1))))) (gNm 2) (mTest (mBin notInD (mVal (mVar 2)) (mVal (mTup (mA (mVal (ret (.int 1))) (mA (mVal (mUn negD (mVal (ret (.int 1))))) (mA (mVal (ret (.int 2))) (mA (mVal (mUn negD (mVal (ret (.int 2))))) mA0)))))))) (mVar 2) [2]
def m_law_is_state : List PyData → Option (PyData × List PyData) := mDef .frz [.frz] 3
  (sSeq (sIf (mOr (mNot (mTest (mIsi "tuple" (mVal (mVar 0))))) (mOr (mTest (mBin neD (mVal (mCallB lenD (mA (mVal (mVar 0)) mA0))) (mVal (ret (.int 2))))) (mNot (mTest (mIsi "tuple" (mVal (mBin itemD (mVal (mVar 0)) (mVal (ret (.int 1))))))))))
  (sRet (ret (.bool false)))
  sNx)
  (sSeq (sAsg c0_law_is_state (gNm 1))
  (sRet (mAndV (mBin eqD (mVal (mVar 1)) (mVal (mLst mA0))) (mAndV (mBin inD (mVal (mBin itemD (mVal (mVar 0)) (mVal (ret (.int 0))))) (mVal (mTup (mA (mVal (ret (.int 0))) (mA (mVal (ret (.int 1))) mA0))))) (mBin eqD (mVal c1_law_is_state) (mVal (mLst mA0))))))))
abbrev s_law : Stmt := topS 18
def c0_law : M PyData := mComp (mIt (mVar 12)) (gNm 5) (mTest (mBin inD (mVal (mVar 5)) (mVal (mTup (mA (mVal (ret (.int 2))) (mA (mVal (mUn negD (mVal (ret (.int 2))))) mA0)))))) (mVar 5) [5]
def b0_law : B := (sSeq (sAsg (mCall .frz 1 m_built_net (mA (mVal (mTup (mA (mVal (mVar 11)) (mA (mVal (mBin addD (mVal (mVar 12)) (mVal (mTup (mA (mVal (mVar 5)) mA0))))) mA0)))) mA0)) (gNm 15))
  (sIf (mOr (mTest (mBin neD (mVal (mSl (mVal (mBin itemD (mVal (mVar 15)) (mVal (ret (.int 1))))) mNoPart (mPart (mUn negD (mVal (ret (.int 1))))))) (mVal (mBin itemD (mVal (mVar 14)) (mVal (ret (.int 1))))))) (mTest (mBin neD (mVal (mBin itemD (mVal (mVar 15)) (mVal (ret (.int 0))))) (mVal (mBin addD (mVal (mVar 4)) (mVal (mCallB intD (mA (mVal (mBin inD (mVal (mVar 5)) (mVal (mTup (mA (mVal (ret (.int 2))) (mA (mVal (mUn negD (mVal (ret (.int 2))))) mA0)))))) mA0))))))))
  (sRet (ret (.bool false)))
  sNx))
def b1_law : B := (sSeq (sAsg (mCallB reprD (mA (mVal (mVar 10)) mA0)) (gNm 16))
  (sIf (mOr (mTest (mBin neD (mVal (mCallB reprD (mA (mVal (mCall .frz 1 m_is_build_state (mA (mVal (mVar 10)) mA0))) mA0))) (mVal (mCallB reprD (mA (mVal (mCall .frz 1 m_law_is_state (mA (mVal (mVar 10)) mA0))) mA0))))) (mTest (mBin neD (mVal (mCallB reprD (mA (mVal (mVar 10)) mA0))) (mVal (mVar 16)))))
  (sRet (ret (.bool false)))
  sNx))
def b2_law : B := (sSeq (sAsg (mCallS .frz .src m_law_state 1 1 (mA (mVal (mBin itemD (mVal (mLst (mA (mVal (ret (.int 2))) (mA (mVal (ret (.int 4))) (mA (mVal (ret (.int 6))) (mA (mVal (ret (.int 8))) (mA (mVal (ret (.int 8))) (mA (mVal (ret (.int 8))) mA0)))))))) (mVal (mVar 2)))) mA0)) (gNm 3))
  (sSeq (sAsg (mVar 3) (gTp 2 (gCn (gNm 11) (gCn (gNm 12) gNl))))
  (sSeq (sParK [13, 14] (mF (mCallB reprD (mA (mVal (mVar 3)) mA0)) (mF (mCall .frz 1 m_built_net (mA (mVal (mVar 3)) mA0)) mF0)))
  (sSeq (sIf (mOr (mTest (mBin neD (mVal (mCallB reprD (mA (mVal (mVar 14)) mA0))) (mVal (mCallB reprD (mA (mVal (mCall .frz 1 m_law_net (mA (mVal (mVar 3)) mA0))) mA0))))) (mTest (mBin isNotD (mVal (mCall .frz 1 m_is_signed_net (mA (mVal (mVar 14)) mA0))) (mVal (ret (.bool true))))))
  (sRet (ret (.bool false)))
  sNx)
  (sSeq (sAsg (mBin addD (mVal (mBin subD (mVal (ret (.int 2))) (mVal (mVar 11)))) (mVal (mCallB lenD (mA (mVal c0_law) mA0)))) (gNm 4))
  (sSeq (sIf (mOr (mTest (mBin neD (mVal (mBin itemD (mVal (mVar 14)) (mVal (ret (.int 0))))) (mVal (mVar 4)))) (mOr (mTest (mBin neD (mVal (mCallB lenD (mA (mVal (mBin itemD (mVal (mVar 14)) (mVal (ret (.int 1))))) mA0))) (mVal (mCallB lenD (mA (mVal (mVar 12)) mA0))))) (mTest (mBin neD (mVal (mBin itemD (mVal (mVar 14)) (mVal (ret (.int 3))))) (mVal (mTup (mA (mVal (ret (.int 0))) (mA (mVal (mBin subD (mVal (mVar 4)) (mVal (ret (.int 1))))) mA0))))))))
  (sRet (ret (.bool false)))
  sNx)
  (sSeq (sFor (mIt (mTup (mA (mVal (ret (.int 1))) (mA (mVal (mUn negD (mVal (ret (.int 1))))) (mA (mVal (ret (.int 2))) (mA (mVal (mUn negD (mVal (ret (.int 2))))) mA0)))))) (gNm 5) b0_law)
  (sSeq (sAsg (mCallS .frz .src m_law_of 1 1 (mA (mVal (mLst (mA (mVal (ret .none)) (mA (mVal (ret (.bool true))) (mA (mVal (ret (.int 0))) (mA (mVal (ret (.int 3))) (mA (mVal (mUn negD (mVal (ret (.int 3))))) (mA (mVal (ret (.str "1"))) (mA (mVal (mTup mA0)) (mA (mVal (mTup (mA (mVal (ret (.int 1))) mA0))) (mA (mVal (mLst (mA (mVal (ret (.int 1))) mA0))) mA0))))))))))) mA0)) (gNm 6))
  (sSeq (sAsg (mCallS .frz .src m_law_pick 1 1 (mA (mVal (mBin addD (mVal (mCallB lenD (mA (mVal (mVar 12)) mA0))) (mVal (ret (.int 1))))) mA0)) (gNm 7))
  (sSeq (sAsg (mBin addD (mVal (mBin addD (mVal (mSl (mVal (mVar 12)) mNoPart (mPart (mVar 7)))) (mVal (mTup (mA (mVal (mVar 6)) mA0))))) (mVal (mSl (mVal (mVar 12)) (mPart (mVar 7)) mNoPart))) (gNm 8))
  (sSeq (sAsg (mLst (mA (mVal (mVar 3)) (mA (mVal (mTup (mA (mVal (mVar 11)) (mA (mVal (mVar 8)) mA0)))) (mA (mVal (mTup (mA (mVal (mVar 6)) (mA (mVal (mVar 12)) mA0)))) (mA (mVal (mTup (mA (mVal (mBin subD (mVal (ret (.int 1))) (mVal (mVar 11)))) (mA (mVal (mVar 12)) mA0)))) (mA (mVal (mCallB listD (mA (mVal (mVar 3)) mA0))) (mA (mVal (mBin addD (mVal (mVar 3)) (mVal (mTup (mA (mVal (ret (.int 0))) mA0))))) (mA (mVal (mTup (mA (mVal (mVar 12)) (mA (mVal (mVar 11)) mA0)))) (mA (mVal (mVar 12)) mA0))))))))) (gNm 9))
  (sSeq (sFor (mIt (mBin addD (mVal (mVar 9)) (mVal (mLst (mA (mVal (mVar 6)) (mA (mVal (ret .none)) (mA (mVal (mTup mA0)) (mA (mVal (mTup (mA (mVal (ret (.bool true))) (mA (mVal (mVar 12)) mA0)))) (mA (mVal (mTup (mA (mVal (mVar 11)) (mA (mVal (mVar 6)) mA0)))) (mA (mVal (mTup (mA (mVal (mVar 11)) (mA (mVal (mCallB listD (mA (mVal (mVar 12)) mA0))) mA0)))) (mA (mVal (mTup (mA (mVal (ret (.int 2))) (mA (mVal (mVar 12)) mA0)))) (mA (mVal (mTup (mA (mVal (mVar 11)) mA0))) mA0)))))))))))) (gNm 10) b1_law)
  (sIf (mTest (mBin neD (mVal (mCallB reprD (mA (mVal (mVar 3)) mA0))) (mVal (mVar 13))))
  (sRet (ret (.bool false)))
  sNx)))))))))))))
def m_law : List PyData → Option (PyData × List PyData) := mDef .frz [.frz] 17
  (sSeq (sAsg (mCall .src 1 m_law_source (mA (mVal (mVar 0)) mA0)) (gNm 1))
  (sSeq (sFor (mRng rg1 (mA (mVal (ret (.int 6))) mA0)) (gNm 2) b2_law)
  (sRet (mBin eqD (mVal (mCall .frz 1 m_built_net (mA (mVal (mTup (mA (mVal (ret (.int 0))) (mA (mVal (mTup (mA (mVal (ret (.int 1))) (mA (mVal (ret (.int 1))) (mA (mVal (ret (.int 2))) mA0))))) mA0)))) mA0))) (mVal (mTup (mA (mVal (ret (.int 3))) (mA (mVal (mTup (mA (mVal (mTup (mA (mVal (ret (.int 0))) (mA (mVal (ret (.int 1))) mA0)))) (mA (mVal (mTup (mA (mVal (ret (.int 0))) (mA (mVal (ret (.int 1))) mA0)))) (mA (mVal (mTup (mA (mVal (ret (.int 1))) (mA (mVal (ret (.int 2))) mA0)))) mA0))))) (mA (mVal (mTup (mA (mVal (ret (.int 1))) (mA (mVal (ret (.int 1))) (mA (mVal (ret (.int 1))) mA0))))) (mA (mVal (mTup (mA (mVal (ret (.int 0))) (mA (mVal (ret (.int 2))) mA0)))) mA0))))))))))
/-! ### derivations -/
section
variable {P : Program} {w : World} {K : PySem.W.Frag} {mg : Str → Option Value} {base : Heap}
theorem sc_sign_of_letter : FnScope ["letter"] ["letter"] (defScope s_sign_of_letter) := ⟨rfl, rfl, rfl, by decide +kernel, rfl, by decide +kernel, by decide +kernel⟩
theorem nd_sign_of_letter : (["letter"] : List Str).Nodup := sc_sign_of_letter.nd
theorem ok_sign_of_letter {f : Addr} {fd : FuncData} {k : Nat} (F : Fun K "sign_of_letter" "sign_of_letter" s_sign_of_letter f fd) (hm : mg "sign_of_letter" = some (.ref f)) : FnD P w K mg base (k + 1) "sign_of_letter" [.frz] .frz m_sign_of_letter := by
  refine FnD.of_body (N := ["letter"]) (ps := ["letter"]) (ks := [.frz]) (own := []) F hm (F.binds fun _ _ _ _ _ _ us hl => match us, hl with | [_], _ => rfl) sc_sign_of_letter rfl rfl rfl (hown_of rfl) fun cdv A outer s H E vs room guards hlen => ?_
  exact (ss_one (sd_ret (ed_if (td_cmp o_gt (rd_val (ed_var 0)) (rd_val ed_int) rfl) ed_int (ed_un o_neg (rd_val ed_int)))))
theorem sc_is_build_word : FnScope ["value", "one"] ["value"] (defScope s_is_build_word) := ⟨rfl, rfl, rfl, by decide +kernel, rfl, by decide +kernel, by decide +kernel⟩
theorem nd_is_build_word : (["value", "one"] : List Str).Nodup := sc_is_build_word.nd
theorem ok_is_build_word {f : Addr} {fd : FuncData} {k : Nat} (F : Fun K "is_build_word" "is_build_word" s_is_build_word f fd) (hm : mg "is_build_word" = some (.ref f)) (z_all : mg "all" = none) (z_bool : mg "bool" = none) (z_int : mg "int" = none) (z_isinstance : mg "isinstance" = none) (z_tuple : mg "tuple" = none) : FnD P w K mg base (k + 1) "is_build_word" [.frz] .frz m_is_build_word := by
  refine FnD.of_body (N := ["value", "one"]) (ps := ["value"]) (ks := [.frz, .frz]) (own := []) F hm (F.binds fun _ _ _ _ _ _ us hl => match us, hl with | [_], _ => rfl) sc_is_build_word rfl rfl rfl (hown_of rfl) fun cdv A outer s H E vs room guards hlen => ?_
  exact (ss_cons (sd_if (td_not (td_val (ed_isi (c := "tuple") rfl rfl z_isinstance rfl z_tuple (by decide +kernel) (rd_val (ed_var 0)))))
    (ss_one (sd_ret ed_bl))
    ss_nil)
    (ss_one (sd_ret (ed_callB (f_all rfl) rfl z_all (by decide +kernel) (ad_cons (rd_val (ed_comp rfl nd_is_build_word (id_seq (ed_var 0)) (own := [("one", 1)]) (blkOk_by rfl) (fun _ _ _ _ _ => (gd_name nd_is_build_word rfl (.inl rfl) rfl (psOk_pins rfl) (vs := [1]) (by decide))) (fun _ _ _ _ _ => ptd_nil) (fun _ _ _ _ _ => (ed_and (ed_isi (c := "int") rfl rfl z_isinstance rfl z_int (by decide +kernel) (rd_val (ed_var 1))) (ed_and (ed_not (ed_isi (c := "bool") rfl rfl z_isinstance rfl z_bool (by decide +kernel) (rd_val (ed_var 1)))) (ed_one (ed_cmp (o_in (hu65 room)) (rd_val (ed_var 1)) (rd_val (ed_tup (ad_cons (rd_val ed_int) (ad_cons (rd_val (ed_un o_neg (rd_val ed_int))) (ad_cons (rd_val ed_int) (ad_cons (rd_val (ed_un o_neg (rd_val ed_int))) ad_nil)))))) rfl))))) (frzAll_pins rfl))) ad_nil)))))
theorem sc_is_build_state : FnScope ["value"] ["value"] (defScope s_is_build_state) := ⟨rfl, rfl, rfl, by decide +kernel, rfl, by decide +kernel, by decide +kernel⟩
theorem nd_is_build_state : (["value"] : List Str).Nodup := sc_is_build_state.nd
theorem ok_is_build_state {f : Addr} {fd : FuncData} {k : Nat} (F : Fun K "is_build_state" "is_build_state" s_is_build_state f fd) (hm : mg "is_build_state" = some (.ref f)) (D_is_build_word : FnD P w K mg base k "is_build_word" [.frz] .frz m_is_build_word) (z_bool : mg "bool" = none) (z_int : mg "int" = none) (z_isinstance : mg "isinstance" = none) (z_len : mg "len" = none) (z_tuple : mg "tuple" = none) : FnD P w K mg base (k + 1) "is_build_state" [.frz] .frz m_is_build_state := by
  refine FnD.of_body (N := ["value"]) (ps := ["value"]) (ks := [.frz]) (own := []) F hm (F.binds fun _ _ _ _ _ _ us hl => match us, hl with | [_], _ => rfl) sc_is_build_state rfl rfl rfl (hown_of rfl) fun cdv A outer s H E vs room guards hlen => ?_
  exact (ss_cons (sd_if (wd_pt (wd_or (td_not (td_val (ed_isi (c := "tuple") rfl rfl z_isinstance rfl z_tuple (by decide +kernel) (rd_val (ed_var 0))))) (wd_or (td_cmp (o_ne (hu64 room)) (rd_val (ed_callB f_len rfl z_len PySem.boot_len (ad_cons (rd_val (ed_var 0)) ad_nil))) (rd_val ed_int) rfl) (wd_or1 (td_not (td_val (ed_call (n := 1) D_is_build_word room guards rfl pass0 (ad_cons (rd_val (ed_ix (rd_val (ed_var 0)) (rd_val ed_int) (fun _ _ => rfl))) ad_nil))))))))
    (ss_one (sd_ret ed_bl))
    ss_nil)
    (ss_one (sd_ret (ed_and (ed_isi (c := "int") rfl rfl z_isinstance rfl z_int (by decide +kernel) (rd_val (ed_ix (rd_val (ed_var 0)) (rd_val ed_int) (fun _ _ => rfl)))) (ed_and (ed_not (ed_isi (c := "bool") rfl rfl z_isinstance rfl z_bool (by decide +kernel) (rd_val (ed_ix (rd_val (ed_var 0)) (rd_val ed_int) (fun _ _ => rfl))))) (ed_one (ed_cmp (o_in (hu65 room)) (rd_val (ed_ix (rd_val (ed_var 0)) (rd_val ed_int) (fun _ _ => rfl))) (rd_val (ed_tup (ad_cons (rd_val ed_int) (ad_cons (rd_val ed_int) ad_nil)))) rfl)))))))
theorem sc_built_net : FnScope ["state", "letter", "start", "word", "n", "roads"] ["state"] (defScope s_built_net) := ⟨rfl, rfl, rfl, by decide +kernel, rfl, by decide +kernel, by decide +kernel⟩
theorem nd_built_net : (["state", "letter", "start", "word", "n", "roads"] : List Str).Nodup := sc_built_net.nd
theorem ok_built_net {f : Addr} {fd : FuncData} {k : Nat} (F : Fun K "built_net" "built_net" s_built_net f fd) (hm : mg "built_net" = some (.ref f)) (D_sign_of_letter : FnD P w K mg base k "sign_of_letter" [.frz] .frz m_sign_of_letter) (z_abs : mg "abs" = none) (z_tuple : mg "tuple" = none) : FnD P w K mg base (k + 1) "built_net" [.frz] .frz m_built_net := by
  refine FnD.of_body (N := ["state", "letter", "start", "word", "n", "roads"]) (ps := ["state"]) (ks := [.frz, .frz, .frz, .frz, .frz, .l1]) (own := []) F hm (F.binds fun _ _ _ _ _ _ us hl => match us, hl with | [_], _ => rfl) sc_built_net rfl rfl rfl (hown_of rfl) fun cdv A outer s H E vs room guards hlen => ?_
  exact (ss_cons (sd_asg (ed_var 0) (gd_tup rfl (gsd_cons (gd_name nd_built_net rfl (.inl rfl) rfl (psOk_pins rfl) (vs := [2, 3]) (by decide)) (gsd_cons (gd_name nd_built_net rfl (.inl rfl) rfl (psOk_pins rfl) (vs := [2, 3]) (by decide)) gsd_nil))))
    (ss_cons (sd_parK2 rfl nd_built_net rfl rfl (by decide) rfl rfl (kds := [.frz, .l1]) (kds_of rfl) (af_cons (fd_frz (ed_bin o_sub (rd_val ed_int) (rd_val (ed_var 2)))) (af_cons (fd_lst ad_nil) af_nil)) rfl)
    (ss_cons (sd_for PassesOwn.never rfl (id_seq (ed_var 3)) (gd_name nd_built_net rfl (.inl rfl) rfl (psOk_pins rfl) (vs := [1]) (by decide))
    (ss_one (sd_if (td_cmp (o_eq (hu64 room)) (rd_val (ed_callB f_abs rfl z_abs (by decide +kernel) (ad_cons (rd_val (ed_var 1)) ad_nil))) (rd_val ed_int) rfl)
    (ss_cons (sd_expr (ed_append rfl rfl (ed_tup (ad_cons (rd_val (ed_bin o_sub (rd_val (ed_var 4)) (rd_val ed_int))) (ad_cons (rd_val (ed_var 4)) ad_nil)))))
    (ss_one (sd_aug nd_built_net rfl (.inl rfl) rfl (psOk_pins rfl) i_add ed_int)))
    (ss_one (sd_expr (ed_append rfl rfl (ed_tup (ad_cons (rd_val ed_int) (ad_cons (rd_val (ed_bin o_sub (rd_val (ed_var 4)) (rd_val ed_int))) ad_nil)))))))))
    (ss_one (sd_ret (ed_tup (ad_cons (rd_val (ed_var 4)) (ad_cons (rd_val (ed_callTy f_tuple rfl z_tuple (by decide +kernel) (ad_cons (rd_slot 5) ad_nil))) (ad_cons (rd_val (ed_callTy f_tuple rfl z_tuple (by decide +kernel) (ad_cons (rd_val (ed_comp rfl nd_built_net (id_seq (ed_var 3)) (own := [("letter", 1)]) (blkOk_by rfl) (fun _ _ _ _ _ => (gd_name nd_built_net rfl (.inl rfl) rfl (psOk_pins rfl) (vs := [1]) (by decide))) (fun _ _ _ _ _ => ptd_nil) (fun _ _ _ _ _ => (ed_call (n := 1) D_sign_of_letter room guards rfl pass0 (ad_cons (rd_val (ed_var 1)) ad_nil))) (frzAll_pins rfl))) ad_nil))) (ad_cons (rd_val (ed_tup (ad_cons (rd_val ed_int) (ad_cons (rd_val (ed_bin o_sub (rd_val (ed_var 4)) (rd_val ed_int))) ad_nil)))) ad_nil))))))))))
theorem sc_is_whole_number : FnScope ["value"] ["value"] (defScope s_is_whole_number) := ⟨rfl, rfl, rfl, by decide +kernel, rfl, by decide +kernel, by decide +kernel⟩
theorem nd_is_whole_number : (["value"] : List Str).Nodup := sc_is_whole_number.nd
theorem ok_is_whole_number {f : Addr} {fd : FuncData} {k : Nat} (F : Fun K "is_whole_number" "is_whole_number" s_is_whole_number f fd) (hm : mg "is_whole_number" = some (.ref f)) (z_bool : mg "bool" = none) (z_int : mg "int" = none) (z_isinstance : mg "isinstance" = none) : FnD P w K mg base (k + 1) "is_whole_number" [.frz] .frz m_is_whole_number := by
  refine FnD.of_body (N := ["value"]) (ps := ["value"]) (ks := [.frz]) (own := []) F hm (F.binds fun _ _ _ _ _ _ us hl => match us, hl with | [_], _ => rfl) sc_is_whole_number rfl rfl rfl (hown_of rfl) fun cdv A outer s H E vs room guards hlen => ?_
  exact (ss_one (sd_ret (ed_and (ed_isi (c := "int") rfl rfl z_isinstance rfl z_int (by decide +kernel) (rd_val (ed_var 0))) (ed_one (ed_not (ed_isi (c := "bool") rfl rfl z_isinstance rfl z_bool (by decide +kernel) (rd_val (ed_var 0))))))))
theorem sc_is_below : FnScope ["value", "many"] ["value", "many"] (defScope s_is_below) := ⟨rfl, rfl, rfl, by decide +kernel, rfl, by decide +kernel, by decide +kernel⟩
theorem nd_is_below : (["value", "many"] : List Str).Nodup := sc_is_below.nd
theorem ok_is_below {f : Addr} {fd : FuncData} {k : Nat} (F : Fun K "is_below" "is_below" s_is_below f fd) (hm : mg "is_below" = some (.ref f)) (D_is_whole_number : FnD P w K mg base k "is_whole_number" [.frz] .frz m_is_whole_number) : FnD P w K mg base (k + 1) "is_below" [.frz, .frz] .frz m_is_below := by
  refine FnD.of_body (N := ["value", "many"]) (ps := ["value", "many"]) (ks := [.frz, .frz]) (own := []) F hm (F.binds fun _ _ _ _ _ _ us hl => match us, hl with | [_, _], _ => rfl) sc_is_below rfl rfl rfl (hown_of rfl) fun cdv A outer s H E vs room guards hlen => ?_
  exact (ss_one (sd_ret (ed_and (ed_call (n := 1) D_is_whole_number room guards rfl pass0 (ad_cons (rd_val (ed_var 0)) ad_nil)) (ed_one (ed_chain o_le o_lt (rd_val ed_int) (rd_val (ed_var 0)) (rd_val (ed_var 1)))))))
theorem sc_is_sign : FnScope ["value"] ["value"] (defScope s_is_sign) := ⟨rfl, rfl, rfl, by decide +kernel, rfl, by decide +kernel, by decide +kernel⟩
theorem nd_is_sign : (["value"] : List Str).Nodup := sc_is_sign.nd
theorem ok_is_sign {f : Addr} {fd : FuncData} {k : Nat} (F : Fun K "is_sign" "is_sign" s_is_sign f fd) (hm : mg "is_sign" = some (.ref f)) (D_is_whole_number : FnD P w K mg base k "is_whole_number" [.frz] .frz m_is_whole_number) : FnD P w K mg base (k + 1) "is_sign" [.frz] .frz m_is_sign := by
  refine FnD.of_body (N := ["value"]) (ps := ["value"]) (ks := [.frz]) (own := []) F hm (F.binds fun _ _ _ _ _ _ us hl => match us, hl with | [_], _ => rfl) sc_is_sign rfl rfl rfl (hown_of rfl) fun cdv A outer s H E vs room guards hlen => ?_
  exact (ss_one (sd_ret (ed_and (ed_call (n := 1) D_is_whole_number room guards rfl pass0 (ad_cons (rd_val (ed_var 0)) ad_nil)) (ed_one (ed_cmp (o_in (hu65 room)) (rd_val (ed_var 0)) (rd_val (ed_tup (ad_cons (rd_val ed_int) (ad_cons (rd_val (ed_un o_neg (rd_val ed_int))) ad_nil)))) rfl)))))
theorem sc_is_signed_net : FnScope ["value", "pair", "one", "part"] ["value"] (defScope s_is_signed_net) := ⟨rfl, rfl, rfl, by decide +kernel, rfl, by decide +kernel, by decide +kernel⟩
theorem nd_is_signed_net : (["value", "pair", "one", "part"] : List Str).Nodup := sc_is_signed_net.nd
theorem ok_is_signed_net {f : Addr} {fd : FuncData} {k : Nat} (F : Fun K "is_signed_net" "is_signed_net" s_is_signed_net f fd) (hm : mg "is_signed_net" = some (.ref f)) (D_is_whole_number : FnD P w K mg base k "is_whole_number" [.frz] .frz m_is_whole_number) (D_is_below : FnD P w K mg base k "is_below" [.frz, .frz] .frz m_is_below) (D_is_sign : FnD P w K mg base k "is_sign" [.frz] .frz m_is_sign) (z_all : mg "all" = none) (z_isinstance : mg "isinstance" = none) (z_len : mg "len" = none) (z_tuple : mg "tuple" = none) : FnD P w K mg base (k + 1) "is_signed_net" [.frz] .frz m_is_signed_net := by
  refine FnD.of_body (N := ["value", "pair", "one", "part"]) (ps := ["value"]) (ks := [.frz, .frz, .frz, .frz]) (own := []) F hm (F.binds fun _ _ _ _ _ _ us hl => match us, hl with | [_], _ => rfl) sc_is_signed_net rfl rfl rfl (hown_of rfl) fun cdv A outer s H E vs room guards hlen => ?_
  exact (ss_cons (sd_if (wd_pt (wd_or (td_not (td_val (ed_isi (c := "tuple") rfl rfl z_isinstance rfl z_tuple (by decide +kernel) (rd_val (ed_var 0))))) (wd_or (td_cmp (o_ne (hu64 room)) (rd_val (ed_callB f_len rfl z_len PySem.boot_len (ad_cons (rd_val (ed_var 0)) ad_nil))) (rd_val ed_int) rfl) (wd_or (td_not (td_val (ed_call (n := 1) D_is_whole_number room guards rfl pass0 (ad_cons (rd_val (ed_ix (rd_val (ed_var 0)) (rd_val ed_int) (fun _ _ => rfl))) ad_nil)))) (wd_or1 (td_cmp o_lt (rd_val (ed_ix (rd_val (ed_var 0)) (rd_val ed_int) (fun _ _ => rfl))) (rd_val ed_int) rfl))))))
    (ss_one (sd_ret ed_bl))
    ss_nil)
    (ss_cons (sd_if (wd_pt (wd_or (td_not (td_val (ed_callB (f_all rfl) rfl z_all (by decide +kernel) (ad_cons (rd_val (ed_comp rfl nd_is_signed_net (id_seq (ed_sl (rd_val (ed_var 0)) (pd_some ed_int) pd_none)) (own := [("part", 3)]) (blkOk_by rfl) (fun _ _ _ _ _ => (gd_name nd_is_signed_net rfl (.inl rfl) rfl (psOk_pins rfl) (vs := [3]) (by decide))) (fun _ _ _ _ _ => ptd_nil) (fun _ _ _ _ _ => (ed_isi (c := "tuple") rfl rfl z_isinstance rfl z_tuple (by decide +kernel) (rd_val (ed_var 3)))) (frzAll_pins rfl))) ad_nil)))) (wd_or1 (td_cmp (o_ne (hu64 room)) (rd_val (ed_callB f_len rfl z_len PySem.boot_len (ad_cons (rd_val (ed_ix (rd_val (ed_var 0)) (rd_val ed_int) (fun _ _ => rfl))) ad_nil))) (rd_val (ed_callB f_len rfl z_len PySem.boot_len (ad_cons (rd_val (ed_ix (rd_val (ed_var 0)) (rd_val ed_int) (fun _ _ => rfl))) ad_nil))) rfl))))
    (ss_one (sd_ret ed_bl))
    ss_nil)
    (ss_cons (sd_for PassesOwn.never rfl (id_seq (ed_ix (rd_val (ed_var 0)) (rd_val ed_int) (fun _ _ => rfl))) (gd_name nd_is_signed_net rfl (.inl rfl) rfl (psOk_pins rfl) (vs := [1]) (by decide))
    (ss_cons (sd_if (wd_pt (wd_or (td_not (td_val (ed_isi (c := "tuple") rfl rfl z_isinstance rfl z_tuple (by decide +kernel) (rd_val (ed_var 1))))) (wd_or (td_cmp (o_ne (hu64 room)) (rd_val (ed_callB f_len rfl z_len PySem.boot_len (ad_cons (rd_val (ed_var 1)) ad_nil))) (rd_val ed_int) rfl) (wd_or1 (td_not (td_val (ed_callB (f_all rfl) rfl z_all (by decide +kernel) (ad_cons (rd_val (ed_comp rfl nd_is_signed_net (id_seq (ed_var 1)) (own := [("one", 2)]) (blkOk_by rfl) (fun _ _ _ _ _ => (gd_name nd_is_signed_net rfl (.inl rfl) rfl (psOk_pins rfl) (vs := [2]) (by decide))) (fun _ _ _ _ _ => ptd_nil) (fun _ _ _ _ _ => (ed_call (n := 2) D_is_below room guards rfl pass0 (ad_cons (rd_val (ed_var 2)) (ad_cons (rd_val (ed_ix (rd_val (ed_var 0)) (rd_val ed_int) (fun _ _ => rfl))) ad_nil)))) (frzAll_pins rfl))) ad_nil))))))))
    (ss_one (sd_ret ed_bl))
    ss_nil)
    (ss_one (sd_if (td_cmp o_gt (rd_val (ed_ix (rd_val (ed_var 1)) (rd_val ed_int) (fun _ _ => rfl))) (rd_val (ed_ix (rd_val (ed_var 1)) (rd_val ed_int) (fun _ _ => rfl))) rfl)
    (ss_one (sd_ret ed_bl))
    ss_nil))))
    (ss_one (sd_ret (ed_and (ed_callB (f_all rfl) rfl z_all (by decide +kernel) (ad_cons (rd_val (ed_comp rfl nd_is_signed_net (id_seq (ed_ix (rd_val (ed_var 0)) (rd_val ed_int) (fun _ _ => rfl))) (own := [("one", 2)]) (blkOk_by rfl) (fun _ _ _ _ _ => (gd_name nd_is_signed_net rfl (.inl rfl) rfl (psOk_pins rfl) (vs := [2]) (by decide))) (fun _ _ _ _ _ => ptd_nil) (fun _ _ _ _ _ => (ed_call (n := 1) D_is_sign room guards rfl pass0 (ad_cons (rd_val (ed_var 2)) ad_nil))) (frzAll_pins rfl))) ad_nil)) (ed_one (ed_callB (f_all rfl) rfl z_all (by decide +kernel) (ad_cons (rd_val (ed_comp rfl nd_is_signed_net (id_seq (ed_ix (rd_val (ed_var 0)) (rd_val ed_int) (fun _ _ => rfl))) (own := [("one", 2)]) (blkOk_by rfl) (fun _ _ _ _ _ => (gd_name nd_is_signed_net rfl (.inl rfl) rfl (psOk_pins rfl) (vs := [2]) (by decide))) (fun _ _ _ _ _ => ptd_nil) (fun _ _ _ _ _ => (ed_call (n := 2) D_is_below room guards rfl pass0 (ad_cons (rd_val (ed_var 2)) (ad_cons (rd_val (ed_ix (rd_val (ed_var 0)) (rd_val ed_int) (fun _ _ => rfl))) ad_nil)))) (frzAll_pins rfl))) ad_nil)))))))))
theorem sc__law_source : FnScope ["script", "mixed", "cell"] ["script"] (defScope s__law_source) := ⟨rfl, rfl, rfl, by decide +kernel, rfl, by decide +kernel, by decide +kernel⟩
theorem nd__law_source : (["script", "mixed", "cell"] : List Str).Nodup := sc__law_source.nd
theorem ok__law_source {f : Addr} {fd : FuncData} {k : Nat} (F : Fun K "_law_source" "_law_source" s__law_source f fd) (hm : mg "_law_source" = some (.ref f)) (z_abs : mg "abs" = none) (z_int : mg "int" = none) : FnD P w K mg base (k + 1) "_law_source" [.frz] .src m_law_source := by
  refine FnD.of_body (N := ["script", "mixed", "cell"]) (ps := ["script"]) (ks := [.frz, .frz, .frz]) (own := []) F hm (F.binds fun _ _ _ _ _ _ us hl => match us, hl with | [_], _ => rfl) sc__law_source rfl rfl rfl (hown_of rfl) fun cdv A outer s H E vs room guards hlen => ?_
  exact (ss_cons (sd_set nd__law_source rfl (.inl rfl) rfl (psOk_pins rfl) ed_int)
    (ss_cons (sd_for PassesOwn.never rfl (id_seq (ed_var 0)) (gd_name nd__law_source rfl (.inl rfl) rfl (psOk_pins rfl) (vs := [2]) (by decide))
    (ss_one (sd_set nd__law_source rfl (.inl rfl) rfl (psOk_pins rfl) (ed_bin o_mod (rd_val (ed_callTy f_int rfl z_int (by decide +kernel) (ad_cons (rd_val (ed_bin o_add (rd_val (ed_bin o_add (rd_val (ed_bin o_mul (rd_val (ed_var 1)) (rd_val ed_int))) (rd_val (ed_bin o_mul (rd_val (ed_var 2)) (rd_val ed_int))))) (rd_val ed_int))) ad_nil))) (rd_val ed_int)))))
    (ss_one (sd_retF (fd_srcNew (fd_revL (rd_val (ed_comp rfl nd__law_source (id_seq (ed_var 0)) (own := [("cell", 2)]) (blkOk_by rfl) (fun _ _ _ _ _ => (gd_name nd__law_source rfl (.inl rfl) rfl (psOk_pins rfl) (vs := [2]) (by decide))) (fun _ _ _ _ _ => ptd_nil) (fun _ _ _ _ _ => (ed_callB f_abs rfl z_abs (by decide +kernel) (ad_cons (rd_val (ed_var 2)) ad_nil))) (frzAll_pins rfl)))) ed_int (ed_var 1) ed_int)))))
theorem sc__law_pick : FnScope ["source", "many", "left", "mixed"] ["source", "many"] (defScope s__law_pick) := ⟨rfl, rfl, rfl, by decide +kernel, rfl, by decide +kernel, by decide +kernel⟩
theorem nd__law_pick : (["source", "many", "left", "mixed"] : List Str).Nodup := sc__law_pick.nd
theorem ok__law_pick {f : Addr} {fd : FuncData} {k : Nat} (F : Fun K "_law_pick" "_law_pick" s__law_pick f fd) (hm : mg "_law_pick" = some (.ref f)) (z_int : mg "int" = none) (z_len : mg "len" = none) (z_max : mg "max" = none) : FnD P w K mg base (k + 1) "_law_pick" [.src, .frz] .frz m_law_pick := by
  refine FnD.of_body (N := ["source", "many", "left", "mixed"]) (ps := ["source", "many"]) (ks := [.src, .frz, .frz, .frz]) (own := [0]) F hm (F.binds fun _ _ _ _ _ _ us hl => match us, hl with | [_, _], _ => rfl) sc__law_pick rfl rfl rfl (hown_of rfl) fun cdv A outer s H E vs room guards hlen => ?_
  exact (ss_cons (sd_while PassesOwn.never (wd_pt (wd_and (td_cmp o_gt (rd_val (ed_var 1)) (rd_val ed_int) rfl) (wd_and (td_cmp o_lt (rd_val (ed_srcGet .left (hu1 room) rfl rfl)) (rd_val ed_int) rfl) (wd_and1 (td_cmp o_gt (rd_val (ed_srcLen (hu1 room) rfl z_len rfl rfl)) (rd_val ed_int) rfl)))))
    (ss_one (sd_srcPut .left (hu1 room) rfl rfl (ed_srcPop (hu1 room) rfl rfl))))
    (ss_cons (sd_set nd__law_pick rfl (.inl rfl) rfl (psOk_pins rfl) (ed_srcGet .left (hu1 room) rfl rfl))
    (ss_cons (sd_if (wd_pt (wd_or (td_cmp o_lt (rd_val (ed_var 1)) (rd_val ed_int) rfl) (wd_or1 (td_cmp o_gt (rd_val (ed_var 2)) (rd_val ed_int) rfl))))
    (ss_cons (sd_srcPut .left (hu1 room) rfl rfl (ed_bin o_fdiv (rd_val (ed_var 2)) (rd_val (ed_callB (f_max2 rfl) rfl z_max (by decide +kernel) (ad_cons (rd_val ed_int) (ad_cons (rd_val (ed_var 1)) ad_nil))))))
    (ss_one (sd_ret (ed_bin o_mod (rd_val (ed_callTy f_int rfl z_int (by decide +kernel) (ad_cons (rd_val (ed_var 2)) ad_nil))) (rd_val (ed_callB (f_max2 rfl) rfl z_max (by decide +kernel) (ad_cons (rd_val ed_int) (ad_cons (rd_val (ed_var 1)) ad_nil))))))))
    ss_nil)
    (ss_cons (sd_srcPut .turn (hu1 room) rfl rfl (ed_bin o_add (rd_val (ed_srcGet .turn (hu1 room) rfl rfl)) (rd_val ed_int)))
    (ss_cons (sd_set nd__law_pick rfl (.inl rfl) rfl (psOk_pins rfl) (ed_bin o_mod (rd_val (ed_callTy f_int rfl z_int (by decide +kernel) (ad_cons (rd_val (ed_bin o_add (rd_val (ed_srcGet .mixed (hu1 room) rfl rfl)) (rd_val (ed_bin o_mul (rd_val (ed_srcGet .turn (hu1 room) rfl rfl)) (rd_val ed_int))))) ad_nil))) (rd_val ed_int)))
    (ss_cons (sd_set nd__law_pick rfl (.inl rfl) rfl (psOk_pins rfl) (ed_bin o_mod (rd_val (ed_callTy f_int rfl z_int (by decide +kernel) (ad_cons (rd_val (ed_bin o_add (rd_val (ed_bin o_mul (rd_val (ed_var 3)) (rd_val (ed_var 3)))) (rd_val (ed_bin o_mul (rd_val (ed_srcGet .turn (hu1 room) rfl rfl)) (rd_val ed_int))))) ad_nil))) (rd_val ed_int)))
    (ss_cons (sd_srcPut .mixed (hu1 room) rfl rfl (ed_var 3))
    (ss_one (sd_ret (ed_bin o_mod (rd_val (ed_callTy f_int rfl z_int (by decide +kernel) (ad_cons (rd_val (ed_bin o_fdiv (rd_val (ed_var 3)) (rd_val ed_int))) ad_nil))) (rd_val (ed_var 1))))))))))))
theorem sc__law_of : FnScope ["source", "some"] ["source", "some"] (defScope s__law_of) := ⟨rfl, rfl, rfl, by decide +kernel, rfl, by decide +kernel, by decide +kernel⟩
theorem nd__law_of : (["source", "some"] : List Str).Nodup := sc__law_of.nd
theorem ok__law_of {f : Addr} {fd : FuncData} {k : Nat} (F : Fun K "_law_of" "_law_of" s__law_of f fd) (hm : mg "_law_of" = some (.ref f)) (D__law_pick : FnD P w K mg base k "_law_pick" [.src, .frz] .frz m_law_pick) (z_len : mg "len" = none) : FnD P w K mg base (k + 1) "_law_of" [.src, .frz] .frz m_law_of := by
  refine FnD.of_body (N := ["source", "some"]) (ps := ["source", "some"]) (ks := [.src, .frz]) (own := [0]) F hm (F.binds fun _ _ _ _ _ _ us hl => match us, hl with | [_, _], _ => rfl) sc__law_of rfl rfl rfl (hown_of rfl) fun cdv A outer s H E vs room guards hlen => ?_
  exact (ss_one (sd_ret (ed_ix (rd_val (ed_var 1)) (rd_val (ed_callS (n := 1) (i := 0) D__law_pick room guards rfl pass0 (by decide) rfl rfl (by first | exact .inl rfl | exact .inr (.inl rfl) | exact .inr (.inr rfl)) (ad_cons (rd_val (ed_callB f_len rfl z_len PySem.boot_len (ad_cons (rd_val (ed_var 1)) ad_nil))) ad_nil))) (fun _ _ => rfl))))
theorem sc__law_sign : FnScope ["letter"] ["letter"] (defScope s__law_sign) := ⟨rfl, rfl, rfl, by decide +kernel, rfl, by decide +kernel, by decide +kernel⟩
theorem nd__law_sign : (["letter"] : List Str).Nodup := sc__law_sign.nd
theorem ok__law_sign {f : Addr} {fd : FuncData} {k : Nat} (F : Fun K "_law_sign" "_law_sign" s__law_sign f fd) (hm : mg "_law_sign" = some (.ref f)) : FnD P w K mg base (k + 1) "_law_sign" [.frz] .frz m_law_sign := by
  refine FnD.of_body (N := ["letter"]) (ps := ["letter"]) (ks := [.frz]) (own := []) F hm (F.binds fun _ _ _ _ _ _ us hl => match us, hl with | [_], _ => rfl) sc__law_sign rfl rfl rfl (hown_of rfl) fun cdv A outer s H E vs room guards hlen => ?_
  exact (ss_one (sd_ret (ed_if (td_cmp o_gt (rd_val (ed_var 0)) (rd_val ed_int) rfl) ed_int (ed_un o_neg (rd_val ed_int)))))
theorem sc__law_state : FnScope ["source", "most", "lap", "start", "word", "way", "letter"] ["source", "most"] (defScope s__law_state) := ⟨rfl, rfl, rfl, by decide +kernel, rfl, by decide +kernel, by decide +kernel⟩
theorem nd__law_state : (["source", "most", "lap", "start", "word", "way", "letter"] : List Str).Nodup := sc__law_state.nd
theorem ok__law_state {f : Addr} {fd : FuncData} {k : Nat} (F : Fun K "_law_state" "_law_state" s__law_state f fd) (hm : mg "_law_state" = some (.ref f)) (D__law_pick : FnD P w K mg base k "_law_pick" [.src, .frz] .frz m_law_pick) (D__law_of : FnD P w K mg base k "_law_of" [.src, .frz] .frz m_law_of) (D__law_sign : FnD P w K mg base k "_law_sign" [.frz] .frz m_law_sign) (z_abs : mg "abs" = none) (z_range : mg "range" = none) : FnD P w K mg base (k + 1) "_law_state" [.src, .frz] .frz m_law_state := by
  refine FnD.of_body (N := ["source", "most", "lap", "start", "word", "way", "letter"]) (ps := ["source", "most"]) (ks := [.src, .frz, .frz, .frz, .frz, .frz, .frz]) (own := [0]) F hm (F.binds fun _ _ _ _ _ _ us hl => match us, hl with | [_, _], _ => rfl) sc__law_state rfl rfl rfl (hown_of rfl) fun cdv A outer s H E vs room guards hlen => ?_
  exact (ss_cons (sd_parK3 rfl nd__law_state rfl rfl rfl (by decide) (by decide) (by decide) rfl rfl rfl (kds := [.frz, .frz, .frz]) (kds_of rfl) (af_cons (fd_frz (ed_bin o_fdiv (rd_val (ed_callS (n := 1) (i := 0) D__law_pick room guards rfl pass0 (by decide) rfl rfl (by first | exact .inl rfl | exact .inr (.inl rfl) | exact .inr (.inr rfl)) (ad_cons (rd_val ed_int) ad_nil))) (rd_val ed_int))) (af_cons (fd_frz (ed_tup ad_nil)) (af_cons (fd_frz (ed_callS (n := 1) (i := 0) D__law_pick room guards rfl pass0 (by decide) rfl rfl (by first | exact .inl rfl | exact .inr (.inl rfl) | exact .inr (.inr rfl)) (ad_cons (rd_val ed_int) ad_nil))) af_nil))) rfl)
    (ss_cons (sd_for PassesOwn.never rfl (id_range1 rfl z_range (ad_cons (rd_val (ed_callS (n := 1) (i := 0) D__law_pick room guards rfl pass0 (by decide) rfl rfl (by first | exact .inl rfl | exact .inr (.inl rfl) | exact .inr (.inr rfl)) (ad_cons (rd_val (ed_bin o_add (rd_val (ed_var 1)) (rd_val ed_int))) ad_nil))) ad_nil)) (gd_name nd__law_state rfl (.inl rfl) rfl (psOk_pins rfl) (vs := [2]) (by decide))
    (ss_cons (sd_set nd__law_state rfl (.inl rfl) rfl (psOk_pins rfl) (ed_callS (n := 1) (i := 0) D__law_of room guards rfl pass0 (by decide) rfl rfl (by first | exact .inl rfl | exact .inr (.inl rfl) | exact .inr (.inr rfl)) (ad_cons (rd_val (ed_lst (ad_cons (rd_val ed_int) (ad_cons (rd_val (ed_un o_neg (rd_val ed_int))) (ad_cons (rd_val ed_int) (ad_cons (rd_val (ed_un o_neg (rd_val ed_int))) ad_nil)))))) ad_nil)))
    (ss_cons (sd_if (wd_pt (wd_and (td_cmp (o_eq (hu64 room)) (rd_val (ed_var 5)) (rd_val ed_int) rfl) (wd_and (td_cmp (o_ne (hu64 room)) (rd_val (ed_var 4)) (rd_val (ed_tup ad_nil)) rfl) (wd_and1 (td_cmp o_gt (rd_val (ed_callS (n := 1) (i := 0) D__law_pick room guards rfl pass0 (by decide) rfl rfl (by first | exact .inl rfl | exact .inr (.inl rfl) | exact .inr (.inr rfl)) (ad_cons (rd_val ed_int) ad_nil))) (rd_val ed_int) rfl)))))
    (ss_one (sd_set nd__law_state rfl (.inl rfl) rfl (psOk_pins rfl) (ed_bin o_mul (rd_val (ed_callB f_abs rfl z_abs (by decide +kernel) (ad_cons (rd_val (ed_var 6)) ad_nil))) (rd_val (ed_call (n := 1) D__law_sign room guards rfl pass0 (ad_cons (rd_val (ed_ix (rd_val (ed_var 4)) (rd_val (ed_un o_neg (rd_val ed_int))) (fun _ _ => rfl))) ad_nil))))))
    ss_nil)
    (ss_one (sd_set nd__law_state rfl (.inl rfl) rfl (psOk_pins rfl) (ed_bin o_add (rd_val (ed_var 4)) (rd_val (ed_tup (ad_cons (rd_val (ed_var 6)) ad_nil)))))))))
    (ss_one (sd_ret (ed_tup (ad_cons (rd_val (ed_var 3)) (ad_cons (rd_val (ed_var 4)) ad_nil)))))))
theorem sc__law_net : FnScope ["state", "letter", "n", "roads", "signs"] ["state"] (defScope s__law_net) := ⟨rfl, rfl, rfl, by decide +kernel, rfl, by decide +kernel, by decide +kernel⟩
theorem nd__law_net : (["state", "letter", "n", "roads", "signs"] : List Str).Nodup := sc__law_net.nd
theorem ok__law_net {f : Addr} {fd : FuncData} {k : Nat} (F : Fun K "_law_net" "_law_net" s__law_net f fd) (hm : mg "_law_net" = some (.ref f)) (D__law_sign : FnD P w K mg base k "_law_sign" [.frz] .frz m_law_sign) (z_tuple : mg "tuple" = none) : FnD P w K mg base (k + 1) "_law_net" [.frz] .frz m_law_net := by
  refine FnD.of_body (N := ["state", "letter", "n", "roads", "signs"]) (ps := ["state"]) (ks := [.frz, .frz, .frz, .l1, .l1]) (own := []) F hm (F.binds fun _ _ _ _ _ _ us hl => match us, hl with | [_], _ => rfl) sc__law_net rfl rfl rfl (hown_of rfl) fun cdv A outer s H E vs room guards hlen => ?_
  exact (ss_cons (sd_parK3 rfl nd__law_net rfl rfl rfl (by decide) (by decide) (by decide) rfl rfl rfl (kds := [.frz, .l1, .l1]) (kds_of rfl) (af_cons (fd_frz (ed_bin o_sub (rd_val ed_int) (rd_val (ed_ix (rd_val (ed_var 0)) (rd_val ed_int) (fun _ _ => rfl))))) (af_cons (fd_lst ad_nil) (af_cons (fd_lst ad_nil) af_nil))) rfl)
    (ss_cons (sd_for PassesOwn.never rfl (id_seq (ed_ix (rd_val (ed_var 0)) (rd_val ed_int) (fun _ _ => rfl))) (gd_name nd__law_net rfl (.inl rfl) rfl (psOk_pins rfl) (vs := [1]) (by decide))
    (ss_cons (sd_if (td_cmp (o_in (hu65 room)) (rd_val (ed_var 1)) (rd_val (ed_tup (ad_cons (rd_val ed_int) (ad_cons (rd_val (ed_un o_neg (rd_val ed_int))) ad_nil)))) rfl)
    (ss_cons (sd_set nd__law_net rfl (.inl rfl) rfl (psOk_pins rfl) (ed_bin o_add (rd_val (ed_var 2)) (rd_val ed_int)))
    (ss_one (sd_expr (ed_append rfl rfl (ed_tup (ad_cons (rd_val (ed_bin o_sub (rd_val (ed_var 2)) (rd_val ed_int))) (ad_cons (rd_val (ed_bin o_sub (rd_val (ed_var 2)) (rd_val ed_int))) ad_nil)))))))
    (ss_one (sd_expr (ed_append rfl rfl (ed_tup (ad_cons (rd_val ed_int) (ad_cons (rd_val (ed_bin o_sub (rd_val (ed_var 2)) (rd_val ed_int))) ad_nil)))))))
    (ss_one (sd_expr (ed_append rfl rfl (ed_call (n := 1) D__law_sign room guards rfl pass0 (ad_cons (rd_val (ed_var 1)) ad_nil)))))))
    (ss_one (sd_ret (ed_tup (ad_cons (rd_val (ed_var 2)) (ad_cons (rd_val (ed_callTy f_tuple rfl z_tuple (by decide +kernel) (ad_cons (rd_slot 3) ad_nil))) (ad_cons (rd_val (ed_callTy f_tuple rfl z_tuple (by decide +kernel) (ad_cons (rd_slot 4) ad_nil))) (ad_cons (rd_val (ed_tup (ad_cons (rd_val ed_int) (ad_cons (rd_val (ed_bin o_sub (rd_val (ed_var 2)) (rd_val ed_int))) ad_nil)))) ad_nil)))))))))
theorem sc__law_is_state : FnScope ["value", "some", "x"] ["value"] (defScope s__law_is_state) := ⟨rfl, rfl, rfl, by decide +kernel, rfl, by decide +kernel, by decide +kernel⟩
theorem nd__law_is_state : (["value", "some", "x"] : List Str).Nodup := sc__law_is_state.nd
theorem ok__law_is_state {f : Addr} {fd : FuncData} {k : Nat} (F : Fun K "_law_is_state" "_law_is_state" s__law_is_state f fd) (hm : mg "_law_is_state" = some (.ref f)) (z_bool : mg "bool" = none) (z_int : mg "int" = none) (z_isinstance : mg "isinstance" = none) (z_len : mg "len" = none) (z_tuple : mg "tuple" = none) : FnD P w K mg base (k + 1) "_law_is_state" [.frz] .frz m_law_is_state := by
  refine FnD.of_body (N := ["value", "some", "x"]) (ps := ["value"]) (ks := [.frz, .frz, .frz]) (own := []) F hm (F.binds fun _ _ _ _ _ _ us hl => match us, hl with | [_], _ => rfl) sc__law_is_state rfl rfl rfl (hown_of rfl) fun cdv A outer s H E vs room guards hlen => ?_
  exact (ss_cons (sd_if (wd_pt (wd_or (td_not (td_val (ed_isi (c := "tuple") rfl rfl z_isinstance rfl z_tuple (by decide +kernel) (rd_val (ed_var 0))))) (wd_or (td_cmp (o_ne (hu64 room)) (rd_val (ed_callB f_len rfl z_len PySem.boot_len (ad_cons (rd_val (ed_var 0)) ad_nil))) (rd_val ed_int) rfl) (wd_or1 (td_not (td_val (ed_isi (c := "tuple") rfl rfl z_isinstance rfl z_tuple (by decide +kernel) (rd_val (ed_ix (rd_val (ed_var 0)) (rd_val ed_int) (fun _ _ => rfl))))))))))
    (ss_one (sd_ret ed_bl))
    ss_nil)
    (ss_cons (sd_setLc rfl nd__law_is_state rfl rfl rfl (psOk_pins rfl) rfl (id_seq (ed_bin o_add (rd_val (ed_tup (ad_cons (rd_val (ed_ix (rd_val (ed_var 0)) (rd_val ed_int) (fun _ _ => rfl))) ad_nil))) (rd_val (ed_ix (rd_val (ed_var 0)) (rd_val ed_int) (fun _ _ => rfl))))) (own := [("x", 2)]) (blkOk_by rfl) (fun _ _ _ _ _ => (gd_name nd__law_is_state rfl (.inl rfl) rfl (psOk_pins rfl) (vs := [2]) (by decide))) (fun _ _ _ _ _ => (ptd_one (wd_pt (wd_or (td_not (td_val (ed_isi (c := "int") rfl rfl z_isinstance rfl z_int (by decide +kernel) (rd_val (ed_var 2))))) (wd_or1 (td_val (ed_isi (c := "bool") rfl rfl z_isinstance rfl z_bool (by decide +kernel) (rd_val (ed_var 2))))))))) (fun _ _ _ _ _ => (ed_var 2)) (frzAll_pins rfl))
    (ss_one (sd_ret (ed_and (ed_cmp (o_eq (hu64 room)) (rd_val (ed_var 1)) (rd_val (ed_lst ad_nil)) rfl) (ed_and (ed_cmp (o_in (hu65 room)) (rd_val (ed_ix (rd_val (ed_var 0)) (rd_val ed_int) (fun _ _ => rfl))) (rd_val (ed_tup (ad_cons (rd_val ed_int) (ad_cons (rd_val ed_int) ad_nil)))) rfl) (ed_one (ed_cmp (o_eq (hu64 room)) (rd_val (ed_comp rfl nd__law_is_state (id_seq (ed_ix (rd_val (ed_var 0)) (rd_val ed_int) (fun _ _ => rfl))) (own := [("x", 2)]) (blkOk_by rfl) (fun _ _ _ _ _ => (gd_name nd__law_is_state rfl (.inl rfl) rfl (psOk_pins rfl) (vs := [2]) (by decide))) (fun _ _ _ _ _ => (ptd_one (td_cmp (o_notIn (hu65 room)) (rd_val (ed_var 2)) (rd_val (ed_tup (ad_cons (rd_val ed_int) (ad_cons (rd_val (ed_un o_neg (rd_val ed_int))) (ad_cons (rd_val ed_int) (ad_cons (rd_val (ed_un o_neg (rd_val ed_int))) ad_nil)))))) rfl))) (fun _ _ _ _ _ => (ed_var 2)) (frzAll_pins rfl))) (rd_val (ed_lst ad_nil)) rfl))))))))
theorem sc_law : FnScope ["script", "source", "lap", "state", "n", "letter", "odd", "k", "bent", "values", "value", "start", "word", "kept", "net", "late", "shown"] ["script"] (defScope s_law) := ⟨rfl, rfl, rfl, by decide +kernel, rfl, by decide +kernel, by decide +kernel⟩
theorem nd_law : (["script", "source", "lap", "state", "n", "letter", "odd", "k", "bent", "values", "value", "start", "word", "kept", "net", "late", "shown"] : List Str).Nodup := sc_law.nd
theorem ok_law {f : Addr} {fd : FuncData} {k : Nat} (F : Fun K "law" "law" s_law f fd) (hm : mg "law" = some (.ref f)) (D__law_source : FnD P w K mg base k "_law_source" [.frz] .src m_law_source) (D__law_state : FnD P w K mg base k "_law_state" [.src, .frz] .frz m_law_state) (D_built_net : FnD P w K mg base k "built_net" [.frz] .frz m_built_net) (D__law_net : FnD P w K mg base k "_law_net" [.frz] .frz m_law_net) (D_is_signed_net : FnD P w K mg base k "is_signed_net" [.frz] .frz m_is_signed_net) (D__law_of : FnD P w K mg base k "_law_of" [.src, .frz] .frz m_law_of) (D__law_pick : FnD P w K mg base k "_law_pick" [.src, .frz] .frz m_law_pick) (D_is_build_state : FnD P w K mg base k "is_build_state" [.frz] .frz m_is_build_state) (D__law_is_state : FnD P w K mg base k "_law_is_state" [.frz] .frz m_law_is_state) (z_int : mg "int" = none) (z_len : mg "len" = none) (z_list : mg "list" = none) (z_range : mg "range" = none) (z_repr : mg "repr" = none) : FnD P w K mg base (k + 1) "law" [.frz] .frz m_law := by
  refine FnD.of_body (N := ["script", "source", "lap", "state", "n", "letter", "odd", "k", "bent", "values", "value", "start", "word", "kept", "net", "late", "shown"]) (ps := ["script"]) (ks := [.frz, .src, .frz, .frz, .frz, .frz, .frz, .frz, .frz, .frz, .frz, .frz, .frz, .frz, .frz, .frz, .frz]) (own := []) F hm (F.binds fun _ _ _ _ _ _ us hl => match us, hl with | [_], _ => rfl) sc_law rfl rfl rfl (hown_of rfl) fun cdv A outer s H E vs room guards hlen => ?_
  exact (ss_cons (sd_own nd_law rfl (.inl rfl) rfl (by decide) (psOk_pins rfl) (fd_call (n := 1) D__law_source room guards rfl pass0 (ad_cons (rd_val (ed_var 0)) ad_nil)))
    (ss_cons (sd_for PassesOwn.never rfl (id_range1 rfl z_range (ad_cons (rd_val ed_int) ad_nil)) (gd_name nd_law rfl (.inl rfl) rfl (psOk_pins rfl) (vs := [2]) (by decide))
    (ss_cons (sd_set nd_law rfl (.inl rfl) rfl (psOk_pins rfl) (ed_callS (n := 1) (i := 1) D__law_state room guards rfl pass0 (by decide) rfl rfl (by first | exact .inl rfl | exact .inr (.inl rfl) | exact .inr (.inr rfl)) (ad_cons (rd_val (ed_ix (rd_val (ed_lst (ad_cons (rd_val ed_int) (ad_cons (rd_val ed_int) (ad_cons (rd_val ed_int) (ad_cons (rd_val ed_int) (ad_cons (rd_val ed_int) (ad_cons (rd_val ed_int) ad_nil)))))))) (rd_val (ed_var 2)) (fun _ _ => rfl))) ad_nil)))
    (ss_cons (sd_asg (ed_var 3) (gd_tup rfl (gsd_cons (gd_name nd_law rfl (.inl rfl) rfl (psOk_pins rfl) (vs := [11, 12]) (by decide)) (gsd_cons (gd_name nd_law rfl (.inl rfl) rfl (psOk_pins rfl) (vs := [11, 12]) (by decide)) gsd_nil))))
    (ss_cons (sd_parK2 rfl nd_law rfl rfl (by decide) rfl rfl (kds := [.frz, .frz]) (kds_of rfl) (af_cons (fd_frz (ed_callB (f_repr guards (hu64 room)) rfl z_repr (by decide +kernel) (ad_cons (rd_val (ed_var 3)) ad_nil))) (af_cons (fd_frz (ed_call (n := 1) D_built_net room guards rfl pass0 (ad_cons (rd_val (ed_var 3)) ad_nil))) af_nil)) rfl)
    (ss_cons (sd_if (wd_pt (wd_or (td_cmp (o_ne (hu64 room)) (rd_val (ed_callB (f_repr guards (hu64 room)) rfl z_repr (by decide +kernel) (ad_cons (rd_val (ed_var 14)) ad_nil))) (rd_val (ed_callB (f_repr guards (hu64 room)) rfl z_repr (by decide +kernel) (ad_cons (rd_val (ed_call (n := 1) D__law_net room guards rfl pass0 (ad_cons (rd_val (ed_var 3)) ad_nil))) ad_nil))) rfl) (wd_or1 (td_cmp o_isNot (rd_val (ed_call (n := 1) D_is_signed_net room guards rfl pass0 (ad_cons (rd_val (ed_var 14)) ad_nil))) (rd_val ed_bl) rfl))))
    (ss_one (sd_ret ed_bl))
    ss_nil)
    (ss_cons (sd_set nd_law rfl (.inl rfl) rfl (psOk_pins rfl) (ed_bin o_add (rd_val (ed_bin o_sub (rd_val ed_int) (rd_val (ed_var 11)))) (rd_val (ed_callB f_len rfl z_len PySem.boot_len (ad_cons (rd_val (ed_comp rfl nd_law (id_seq (ed_var 12)) (own := [("letter", 5)]) (blkOk_by rfl) (fun _ _ _ _ _ => (gd_name nd_law rfl (.inl rfl) rfl (psOk_pins rfl) (vs := [5]) (by decide))) (fun _ _ _ _ _ => (ptd_one (td_cmp (o_in (hu65 room)) (rd_val (ed_var 5)) (rd_val (ed_tup (ad_cons (rd_val ed_int) (ad_cons (rd_val (ed_un o_neg (rd_val ed_int))) ad_nil)))) rfl))) (fun _ _ _ _ _ => (ed_var 5)) (frzAll_pins rfl))) ad_nil)))))
    (ss_cons (sd_if (wd_pt (wd_or (td_cmp (o_ne (hu64 room)) (rd_val (ed_ix (rd_val (ed_var 14)) (rd_val ed_int) (fun _ _ => rfl))) (rd_val (ed_var 4)) rfl) (wd_or (td_cmp (o_ne (hu64 room)) (rd_val (ed_callB f_len rfl z_len PySem.boot_len (ad_cons (rd_val (ed_ix (rd_val (ed_var 14)) (rd_val ed_int) (fun _ _ => rfl))) ad_nil))) (rd_val (ed_callB f_len rfl z_len PySem.boot_len (ad_cons (rd_val (ed_var 12)) ad_nil))) rfl) (wd_or1 (td_cmp (o_ne (hu64 room)) (rd_val (ed_ix (rd_val (ed_var 14)) (rd_val ed_int) (fun _ _ => rfl))) (rd_val (ed_tup (ad_cons (rd_val ed_int) (ad_cons (rd_val (ed_bin o_sub (rd_val (ed_var 4)) (rd_val ed_int))) ad_nil)))) rfl)))))
    (ss_one (sd_ret ed_bl))
    ss_nil)
    (ss_cons (sd_for PassesOwn.never rfl (id_seq (ed_tup (ad_cons (rd_val ed_int) (ad_cons (rd_val (ed_un o_neg (rd_val ed_int))) (ad_cons (rd_val ed_int) (ad_cons (rd_val (ed_un o_neg (rd_val ed_int))) ad_nil)))))) (gd_name nd_law rfl (.inl rfl) rfl (psOk_pins rfl) (vs := [5]) (by decide))
    (ss_cons (sd_set nd_law rfl (.inl rfl) rfl (psOk_pins rfl) (ed_call (n := 1) D_built_net room guards rfl pass0 (ad_cons (rd_val (ed_tup (ad_cons (rd_val (ed_var 11)) (ad_cons (rd_val (ed_bin o_add (rd_val (ed_var 12)) (rd_val (ed_tup (ad_cons (rd_val (ed_var 5)) ad_nil))))) ad_nil)))) ad_nil)))
    (ss_one (sd_if (wd_pt (wd_or (td_cmp (o_ne (hu64 room)) (rd_val (ed_sl (rd_val (ed_ix (rd_val (ed_var 15)) (rd_val ed_int) (fun _ _ => rfl))) pd_none (pd_some (ed_un o_neg (rd_val ed_int))))) (rd_val (ed_ix (rd_val (ed_var 14)) (rd_val ed_int) (fun _ _ => rfl))) rfl) (wd_or1 (td_cmp (o_ne (hu64 room)) (rd_val (ed_ix (rd_val (ed_var 15)) (rd_val ed_int) (fun _ _ => rfl))) (rd_val (ed_bin o_add (rd_val (ed_var 4)) (rd_val (ed_callTy f_int rfl z_int (by decide +kernel) (ad_cons (rd_val (ed_cmp (o_in (hu65 room)) (rd_val (ed_var 5)) (rd_val (ed_tup (ad_cons (rd_val ed_int) (ad_cons (rd_val (ed_un o_neg (rd_val ed_int))) ad_nil)))) rfl)) ad_nil))))) rfl))))
    (ss_one (sd_ret ed_bl))
    ss_nil))))
    (ss_cons (sd_set nd_law rfl (.inl rfl) rfl (psOk_pins rfl) (ed_callS (n := 1) (i := 1) D__law_of room guards rfl pass0 (by decide) rfl rfl (by first | exact .inl rfl | exact .inr (.inl rfl) | exact .inr (.inr rfl)) (ad_cons (rd_val (ed_lst (ad_cons (rd_val ed_non) (ad_cons (rd_val ed_bl) (ad_cons (rd_val ed_int) (ad_cons (rd_val ed_int) (ad_cons (rd_val (ed_un o_neg (rd_val ed_int))) (ad_cons (rd_val ed_str) (ad_cons (rd_val (ed_tup ad_nil)) (ad_cons (rd_val (ed_tup (ad_cons (rd_val ed_int) ad_nil))) (ad_cons (rd_val (ed_lst (ad_cons (rd_val ed_int) ad_nil))) ad_nil))))))))))) ad_nil)))
    (ss_cons (sd_set nd_law rfl (.inl rfl) rfl (psOk_pins rfl) (ed_callS (n := 1) (i := 1) D__law_pick room guards rfl pass0 (by decide) rfl rfl (by first | exact .inl rfl | exact .inr (.inl rfl) | exact .inr (.inr rfl)) (ad_cons (rd_val (ed_bin o_add (rd_val (ed_callB f_len rfl z_len PySem.boot_len (ad_cons (rd_val (ed_var 12)) ad_nil))) (rd_val ed_int))) ad_nil)))
    (ss_cons (sd_set nd_law rfl (.inl rfl) rfl (psOk_pins rfl) (ed_bin o_add (rd_val (ed_bin o_add (rd_val (ed_sl (rd_val (ed_var 12)) pd_none (pd_some (ed_var 7)))) (rd_val (ed_tup (ad_cons (rd_val (ed_var 6)) ad_nil))))) (rd_val (ed_sl (rd_val (ed_var 12)) (pd_some (ed_var 7)) pd_none))))
    (ss_cons (sd_set nd_law rfl (.inl rfl) rfl (psOk_pins rfl) (ed_lst (ad_cons (rd_val (ed_var 3)) (ad_cons (rd_val (ed_tup (ad_cons (rd_val (ed_var 11)) (ad_cons (rd_val (ed_var 8)) ad_nil)))) (ad_cons (rd_val (ed_tup (ad_cons (rd_val (ed_var 6)) (ad_cons (rd_val (ed_var 12)) ad_nil)))) (ad_cons (rd_val (ed_tup (ad_cons (rd_val (ed_bin o_sub (rd_val ed_int) (rd_val (ed_var 11)))) (ad_cons (rd_val (ed_var 12)) ad_nil)))) (ad_cons (rd_val (ed_callTy f_list rfl z_list (by decide +kernel) (ad_cons (rd_val (ed_var 3)) ad_nil))) (ad_cons (rd_val (ed_bin o_add (rd_val (ed_var 3)) (rd_val (ed_tup (ad_cons (rd_val ed_int) ad_nil))))) (ad_cons (rd_val (ed_tup (ad_cons (rd_val (ed_var 12)) (ad_cons (rd_val (ed_var 11)) ad_nil)))) (ad_cons (rd_val (ed_var 12)) ad_nil))))))))))
    (ss_cons (sd_for PassesOwn.never rfl (id_seq (ed_bin o_add (rd_val (ed_var 9)) (rd_val (ed_lst (ad_cons (rd_val (ed_var 6)) (ad_cons (rd_val ed_non) (ad_cons (rd_val (ed_tup ad_nil)) (ad_cons (rd_val (ed_tup (ad_cons (rd_val ed_bl) (ad_cons (rd_val (ed_var 12)) ad_nil)))) (ad_cons (rd_val (ed_tup (ad_cons (rd_val (ed_var 11)) (ad_cons (rd_val (ed_var 6)) ad_nil)))) (ad_cons (rd_val (ed_tup (ad_cons (rd_val (ed_var 11)) (ad_cons (rd_val (ed_callTy f_list rfl z_list (by decide +kernel) (ad_cons (rd_val (ed_var 12)) ad_nil))) ad_nil)))) (ad_cons (rd_val (ed_tup (ad_cons (rd_val ed_int) (ad_cons (rd_val (ed_var 12)) ad_nil)))) (ad_cons (rd_val (ed_tup (ad_cons (rd_val (ed_var 11)) ad_nil))) ad_nil)))))))))))) (gd_name nd_law rfl (.inl rfl) rfl (psOk_pins rfl) (vs := [10]) (by decide))
    (ss_cons (sd_set nd_law rfl (.inl rfl) rfl (psOk_pins rfl) (ed_callB (f_repr guards (hu64 room)) rfl z_repr (by decide +kernel) (ad_cons (rd_val (ed_var 10)) ad_nil)))
    (ss_one (sd_if (wd_pt (wd_or (td_cmp (o_ne (hu64 room)) (rd_val (ed_callB (f_repr guards (hu64 room)) rfl z_repr (by decide +kernel) (ad_cons (rd_val (ed_call (n := 1) D_is_build_state room guards rfl pass0 (ad_cons (rd_val (ed_var 10)) ad_nil))) ad_nil))) (rd_val (ed_callB (f_repr guards (hu64 room)) rfl z_repr (by decide +kernel) (ad_cons (rd_val (ed_call (n := 1) D__law_is_state room guards rfl pass0 (ad_cons (rd_val (ed_var 10)) ad_nil))) ad_nil))) rfl) (wd_or1 (td_cmp (o_ne (hu64 room)) (rd_val (ed_callB (f_repr guards (hu64 room)) rfl z_repr (by decide +kernel) (ad_cons (rd_val (ed_var 10)) ad_nil))) (rd_val (ed_var 16)) rfl))))
    (ss_one (sd_ret ed_bl))
    ss_nil))))
    (ss_one (sd_if (td_cmp (o_ne (hu64 room)) (rd_val (ed_callB (f_repr guards (hu64 room)) rfl z_repr (by decide +kernel) (ad_cons (rd_val (ed_var 3)) ad_nil))) (rd_val (ed_var 13)) rfl)
    (ss_one (sd_ret ed_bl))
    ss_nil)))))))))))))))
    (ss_one (sd_ret (ed_cmp (o_eq (hu64 room)) (rd_val (ed_call (n := 1) D_built_net room guards rfl pass0 (ad_cons (rd_val (ed_tup (ad_cons (rd_val ed_int) (ad_cons (rd_val (ed_tup (ad_cons (rd_val ed_int) (ad_cons (rd_val ed_int) (ad_cons (rd_val ed_int) ad_nil))))) ad_nil)))) ad_nil))) (rd_val (ed_tup (ad_cons (rd_val ed_int) (ad_cons (rd_val (ed_tup (ad_cons (rd_val (ed_tup (ad_cons (rd_val ed_int) (ad_cons (rd_val ed_int) ad_nil)))) (ad_cons (rd_val (ed_tup (ad_cons (rd_val ed_int) (ad_cons (rd_val ed_int) ad_nil)))) (ad_cons (rd_val (ed_tup (ad_cons (rd_val ed_int) (ad_cons (rd_val ed_int) ad_nil)))) ad_nil))))) (ad_cons (rd_val (ed_tup (ad_cons (rd_val ed_int) (ad_cons (rd_val ed_int) (ad_cons (rd_val ed_int) ad_nil))))) (ad_cons (rd_val (ed_tup (ad_cons (rd_val ed_int) (ad_cons (rd_val ed_int) ad_nil)))) ad_nil)))))) rfl)))))
end
theorem all_mk {K : PySem.W.Frag} {h base : Heap} {mg : Str → Option Value} {P : Program} {w : World} (X : K.In h) (G : h.Ns mainGlobals mg)
    {od0 an0 : Option Addr} {sl0 : Array (Option Value)} {oc0 kV0 dc0 pm0 cd0 ct0 : Value} {f0 : Addr}
    (a0 : PySem.W.nsIn K mainGlobals "sign_of_letter" = some (some (.ref f0))) (l0 : K.lookup f0 = some ⟨oc0, od0, .func (PySem.W.fnOf "sign_of_letter" "sign_of_letter" (defArgs s_sign_of_letter) (defBody s_sign_of_letter) (defScope s_sign_of_letter) .none kV0 dc0 pm0 an0 cd0 ct0), sl0⟩) (c0 : PySem.W.codeIn K cd0 "sign_of_letter" = true) (k0 : PySem.W.keepIn K (.ref f0) = true)
    {od1 an1 : Option Addr} {sl1 : Array (Option Value)} {oc1 kV1 dc1 pm1 cd1 ct1 : Value} {f1 : Addr}
    (a1 : PySem.W.nsIn K mainGlobals "is_build_word" = some (some (.ref f1))) (l1 : K.lookup f1 = some ⟨oc1, od1, .func (PySem.W.fnOf "is_build_word" "is_build_word" (defArgs s_is_build_word) (defBody s_is_build_word) (defScope s_is_build_word) .none kV1 dc1 pm1 an1 cd1 ct1), sl1⟩) (c1 : PySem.W.codeIn K cd1 "is_build_word" = true) (k1 : PySem.W.keepIn K (.ref f1) = true)
    {od2 an2 : Option Addr} {sl2 : Array (Option Value)} {oc2 kV2 dc2 pm2 cd2 ct2 : Value} {f2 : Addr}
    (a2 : PySem.W.nsIn K mainGlobals "is_build_state" = some (some (.ref f2))) (l2 : K.lookup f2 = some ⟨oc2, od2, .func (PySem.W.fnOf "is_build_state" "is_build_state" (defArgs s_is_build_state) (defBody s_is_build_state) (defScope s_is_build_state) .none kV2 dc2 pm2 an2 cd2 ct2), sl2⟩) (c2 : PySem.W.codeIn K cd2 "is_build_state" = true) (k2 : PySem.W.keepIn K (.ref f2) = true)
    {od3 an3 : Option Addr} {sl3 : Array (Option Value)} {oc3 kV3 dc3 pm3 cd3 ct3 : Value} {f3 : Addr}
    (a3 : PySem.W.nsIn K mainGlobals "built_net" = some (some (.ref f3))) (l3 : K.lookup f3 = some ⟨oc3, od3, .func (PySem.W.fnOf "built_net" "built_net" (defArgs s_built_net) (defBody s_built_net) (defScope s_built_net) .none kV3 dc3 pm3 an3 cd3 ct3), sl3⟩) (c3 : PySem.W.codeIn K cd3 "built_net" = true) (k3 : PySem.W.keepIn K (.ref f3) = true)
    {od4 an4 : Option Addr} {sl4 : Array (Option Value)} {oc4 kV4 dc4 pm4 cd4 ct4 : Value} {f4 : Addr}
    (a4 : PySem.W.nsIn K mainGlobals "is_whole_number" = some (some (.ref f4))) (l4 : K.lookup f4 = some ⟨oc4, od4, .func (PySem.W.fnOf "is_whole_number" "is_whole_number" (defArgs s_is_whole_number) (defBody s_is_whole_number) (defScope s_is_whole_number) .none kV4 dc4 pm4 an4 cd4 ct4), sl4⟩) (c4 : PySem.W.codeIn K cd4 "is_whole_number" = true) (k4 : PySem.W.keepIn K (.ref f4) = true)
    {od5 an5 : Option Addr} {sl5 : Array (Option Value)} {oc5 kV5 dc5 pm5 cd5 ct5 : Value} {f5 : Addr}
    (a5 : PySem.W.nsIn K mainGlobals "is_below" = some (some (.ref f5))) (l5 : K.lookup f5 = some ⟨oc5, od5, .func (PySem.W.fnOf "is_below" "is_below" (defArgs s_is_below) (defBody s_is_below) (defScope s_is_below) .none kV5 dc5 pm5 an5 cd5 ct5), sl5⟩) (c5 : PySem.W.codeIn K cd5 "is_below" = true) (k5 : PySem.W.keepIn K (.ref f5) = true)
    {od6 an6 : Option Addr} {sl6 : Array (Option Value)} {oc6 kV6 dc6 pm6 cd6 ct6 : Value} {f6 : Addr}
    (a6 : PySem.W.nsIn K mainGlobals "is_sign" = some (some (.ref f6))) (l6 : K.lookup f6 = some ⟨oc6, od6, .func (PySem.W.fnOf "is_sign" "is_sign" (defArgs s_is_sign) (defBody s_is_sign) (defScope s_is_sign) .none kV6 dc6 pm6 an6 cd6 ct6), sl6⟩) (c6 : PySem.W.codeIn K cd6 "is_sign" = true) (k6 : PySem.W.keepIn K (.ref f6) = true)
    {od7 an7 : Option Addr} {sl7 : Array (Option Value)} {oc7 kV7 dc7 pm7 cd7 ct7 : Value} {f7 : Addr}
    (a7 : PySem.W.nsIn K mainGlobals "is_signed_net" = some (some (.ref f7))) (l7 : K.lookup f7 = some ⟨oc7, od7, .func (PySem.W.fnOf "is_signed_net" "is_signed_net" (defArgs s_is_signed_net) (defBody s_is_signed_net) (defScope s_is_signed_net) .none kV7 dc7 pm7 an7 cd7 ct7), sl7⟩) (c7 : PySem.W.codeIn K cd7 "is_signed_net" = true) (k7 : PySem.W.keepIn K (.ref f7) = true)
    {od8 an8 : Option Addr} {sl8 : Array (Option Value)} {oc8 kV8 dc8 pm8 cd8 ct8 : Value} {f8 : Addr}
    (a8 : PySem.W.nsIn K mainGlobals "_law_source" = some (some (.ref f8))) (l8 : K.lookup f8 = some ⟨oc8, od8, .func (PySem.W.fnOf "_law_source" "_law_source" (defArgs s__law_source) (defBody s__law_source) (defScope s__law_source) .none kV8 dc8 pm8 an8 cd8 ct8), sl8⟩) (c8 : PySem.W.codeIn K cd8 "_law_source" = true) (k8 : PySem.W.keepIn K (.ref f8) = true)
    {od9 an9 : Option Addr} {sl9 : Array (Option Value)} {oc9 kV9 dc9 pm9 cd9 ct9 : Value} {f9 : Addr}
    (a9 : PySem.W.nsIn K mainGlobals "_law_pick" = some (some (.ref f9))) (l9 : K.lookup f9 = some ⟨oc9, od9, .func (PySem.W.fnOf "_law_pick" "_law_pick" (defArgs s__law_pick) (defBody s__law_pick) (defScope s__law_pick) .none kV9 dc9 pm9 an9 cd9 ct9), sl9⟩) (c9 : PySem.W.codeIn K cd9 "_law_pick" = true) (k9 : PySem.W.keepIn K (.ref f9) = true)
    {od10 an10 : Option Addr} {sl10 : Array (Option Value)} {oc10 kV10 dc10 pm10 cd10 ct10 : Value} {f10 : Addr}
    (a10 : PySem.W.nsIn K mainGlobals "_law_of" = some (some (.ref f10))) (l10 : K.lookup f10 = some ⟨oc10, od10, .func (PySem.W.fnOf "_law_of" "_law_of" (defArgs s__law_of) (defBody s__law_of) (defScope s__law_of) .none kV10 dc10 pm10 an10 cd10 ct10), sl10⟩) (c10 : PySem.W.codeIn K cd10 "_law_of" = true) (k10 : PySem.W.keepIn K (.ref f10) = true)
    {od11 an11 : Option Addr} {sl11 : Array (Option Value)} {oc11 kV11 dc11 pm11 cd11 ct11 : Value} {f11 : Addr}
    (a11 : PySem.W.nsIn K mainGlobals "_law_sign" = some (some (.ref f11))) (l11 : K.lookup f11 = some ⟨oc11, od11, .func (PySem.W.fnOf "_law_sign" "_law_sign" (defArgs s__law_sign) (defBody s__law_sign) (defScope s__law_sign) .none kV11 dc11 pm11 an11 cd11 ct11), sl11⟩) (c11 : PySem.W.codeIn K cd11 "_law_sign" = true) (k11 : PySem.W.keepIn K (.ref f11) = true)
    {od12 an12 : Option Addr} {sl12 : Array (Option Value)} {oc12 kV12 dc12 pm12 cd12 ct12 : Value} {f12 : Addr}
    (a12 : PySem.W.nsIn K mainGlobals "_law_state" = some (some (.ref f12))) (l12 : K.lookup f12 = some ⟨oc12, od12, .func (PySem.W.fnOf "_law_state" "_law_state" (defArgs s__law_state) (defBody s__law_state) (defScope s__law_state) .none kV12 dc12 pm12 an12 cd12 ct12), sl12⟩) (c12 : PySem.W.codeIn K cd12 "_law_state" = true) (k12 : PySem.W.keepIn K (.ref f12) = true)
    {od13 an13 : Option Addr} {sl13 : Array (Option Value)} {oc13 kV13 dc13 pm13 cd13 ct13 : Value} {f13 : Addr}
    (a13 : PySem.W.nsIn K mainGlobals "_law_net" = some (some (.ref f13))) (l13 : K.lookup f13 = some ⟨oc13, od13, .func (PySem.W.fnOf "_law_net" "_law_net" (defArgs s__law_net) (defBody s__law_net) (defScope s__law_net) .none kV13 dc13 pm13 an13 cd13 ct13), sl13⟩) (c13 : PySem.W.codeIn K cd13 "_law_net" = true) (k13 : PySem.W.keepIn K (.ref f13) = true)
    {od14 an14 : Option Addr} {sl14 : Array (Option Value)} {oc14 kV14 dc14 pm14 cd14 ct14 : Value} {f14 : Addr}
    (a14 : PySem.W.nsIn K mainGlobals "_law_is_state" = some (some (.ref f14))) (l14 : K.lookup f14 = some ⟨oc14, od14, .func (PySem.W.fnOf "_law_is_state" "_law_is_state" (defArgs s__law_is_state) (defBody s__law_is_state) (defScope s__law_is_state) .none kV14 dc14 pm14 an14 cd14 ct14), sl14⟩) (c14 : PySem.W.codeIn K cd14 "_law_is_state" = true) (k14 : PySem.W.keepIn K (.ref f14) = true)
    {od15 an15 : Option Addr} {sl15 : Array (Option Value)} {oc15 kV15 dc15 pm15 cd15 ct15 : Value} {f15 : Addr}
    (a15 : PySem.W.nsIn K mainGlobals "law" = some (some (.ref f15))) (l15 : K.lookup f15 = some ⟨oc15, od15, .func (PySem.W.fnOf "law" "law" (defArgs s_law) (defBody s_law) (defScope s_law) .none kV15 dc15 pm15 an15 cd15 ct15), sl15⟩) (c15 : PySem.W.codeIn K cd15 "law" = true) (k15 : PySem.W.keepIn K (.ref f15) = true)
    (w_abs : PySem.W.nsIn K mainGlobals "abs" = some none)
    (w_all : PySem.W.nsIn K mainGlobals "all" = some none)
    (w_bool : PySem.W.nsIn K mainGlobals "bool" = some none)
    (w_int : PySem.W.nsIn K mainGlobals "int" = some none)
    (w_isinstance : PySem.W.nsIn K mainGlobals "isinstance" = some none)
    (w_len : PySem.W.nsIn K mainGlobals "len" = some none)
    (w_list : PySem.W.nsIn K mainGlobals "list" = some none)
    (w_max : PySem.W.nsIn K mainGlobals "max" = some none)
    (w_range : PySem.W.nsIn K mainGlobals "range" = some none)
    (w_repr : PySem.W.nsIn K mainGlobals "repr" = some none)
    (w_tuple : PySem.W.nsIn K mainGlobals "tuple" = some none)
    : FnD P w K mg base 4 "law" [.frz] .frz m_law := by
  have z_abs : mg "abs" = none := PySem.W.mg_none_of X G w_abs
  have z_all : mg "all" = none := PySem.W.mg_none_of X G w_all
  have z_bool : mg "bool" = none := PySem.W.mg_none_of X G w_bool
  have z_int : mg "int" = none := PySem.W.mg_none_of X G w_int
  have z_isinstance : mg "isinstance" = none := PySem.W.mg_none_of X G w_isinstance
  have z_len : mg "len" = none := PySem.W.mg_none_of X G w_len
  have z_list : mg "list" = none := PySem.W.mg_none_of X G w_list
  have z_max : mg "max" = none := PySem.W.mg_none_of X G w_max
  have z_range : mg "range" = none := PySem.W.mg_none_of X G w_range
  have z_repr : mg "repr" = none := PySem.W.mg_none_of X G w_repr
  have z_tuple : mg "tuple" = none := PySem.W.mg_none_of X G w_tuple
  have D_sign_of_letter := ok_sign_of_letter (P := P) (w := w) (base := base) (k := 0) (fun_mk (st := s_sign_of_letter) l0 c0 k0) (PySem.W.mg_of X G a0)
  have D_is_build_word := ok_is_build_word (P := P) (w := w) (base := base) (k := 0) (fun_mk (st := s_is_build_word) l1 c1 k1) (PySem.W.mg_of X G a1) z_all z_bool z_int z_isinstance z_tuple
  have D_is_build_state := ok_is_build_state (P := P) (w := w) (base := base) (k := 1) (fun_mk (st := s_is_build_state) l2 c2 k2) (PySem.W.mg_of X G a2) (D_is_build_word.up (by decide)) z_bool z_int z_isinstance z_len z_tuple
  have D_built_net := ok_built_net (P := P) (w := w) (base := base) (k := 1) (fun_mk (st := s_built_net) l3 c3 k3) (PySem.W.mg_of X G a3) (D_sign_of_letter.up (by decide)) z_abs z_tuple
  have D_is_whole_number := ok_is_whole_number (P := P) (w := w) (base := base) (k := 0) (fun_mk (st := s_is_whole_number) l4 c4 k4) (PySem.W.mg_of X G a4) z_bool z_int z_isinstance
  have D_is_below := ok_is_below (P := P) (w := w) (base := base) (k := 1) (fun_mk (st := s_is_below) l5 c5 k5) (PySem.W.mg_of X G a5) (D_is_whole_number.up (by decide))
  have D_is_sign := ok_is_sign (P := P) (w := w) (base := base) (k := 1) (fun_mk (st := s_is_sign) l6 c6 k6) (PySem.W.mg_of X G a6) (D_is_whole_number.up (by decide))
  have D_is_signed_net := ok_is_signed_net (P := P) (w := w) (base := base) (k := 2) (fun_mk (st := s_is_signed_net) l7 c7 k7) (PySem.W.mg_of X G a7) (D_is_whole_number.up (by decide)) (D_is_below.up (by decide)) (D_is_sign.up (by decide)) z_all z_isinstance z_len z_tuple
  have D__law_source := ok__law_source (P := P) (w := w) (base := base) (k := 0) (fun_mk (st := s__law_source) l8 c8 k8) (PySem.W.mg_of X G a8) z_abs z_int
  have D__law_pick := ok__law_pick (P := P) (w := w) (base := base) (k := 0) (fun_mk (st := s__law_pick) l9 c9 k9) (PySem.W.mg_of X G a9) z_int z_len z_max
  have D__law_of := ok__law_of (P := P) (w := w) (base := base) (k := 1) (fun_mk (st := s__law_of) l10 c10 k10) (PySem.W.mg_of X G a10) (D__law_pick.up (by decide)) z_len
  have D__law_sign := ok__law_sign (P := P) (w := w) (base := base) (k := 0) (fun_mk (st := s__law_sign) l11 c11 k11) (PySem.W.mg_of X G a11)
  have D__law_state := ok__law_state (P := P) (w := w) (base := base) (k := 2) (fun_mk (st := s__law_state) l12 c12 k12) (PySem.W.mg_of X G a12) (D__law_pick.up (by decide)) (D__law_of.up (by decide)) (D__law_sign.up (by decide)) z_abs z_range
  have D__law_net := ok__law_net (P := P) (w := w) (base := base) (k := 1) (fun_mk (st := s__law_net) l13 c13 k13) (PySem.W.mg_of X G a13) (D__law_sign.up (by decide)) z_tuple
  have D__law_is_state := ok__law_is_state (P := P) (w := w) (base := base) (k := 0) (fun_mk (st := s__law_is_state) l14 c14 k14) (PySem.W.mg_of X G a14) z_bool z_int z_isinstance z_len z_tuple
  have D_law := ok_law (P := P) (w := w) (base := base) (k := 3) (fun_mk (st := s_law) l15 c15 k15) (PySem.W.mg_of X G a15) (D__law_source.up (by decide)) (D__law_state.up (by decide)) (D_built_net.up (by decide)) (D__law_net.up (by decide)) (D_is_signed_net.up (by decide)) (D__law_of.up (by decide)) (D__law_pick.up (by decide)) (D_is_build_state.up (by decide)) (D__law_is_state.up (by decide)) z_int z_len z_list z_range z_repr
  exact D_law
end K43

namespace K43
open PySem PySem.Spec PyProof.Rows L2 DL

theorem pick_is : m_law_pick = mmPick := rfl
theorem source_is : m_law_source = mmSource := rfl
def Ltr (l : Int) : Prop := l = 1 ∨ l = -1 ∨ l = 2 ∨ l = -2
def wD (w : List Int) : PyData := .tuple (w.map .int)
def st (b : Int) (w : List Int) : PyData := .tuple [.int b, wD w]
def sg (n : Int) : Int := if 0 < n then 1 else -1
theorem sign_p (n : Int) : m_sign_of_letter [.int n] = some (.int (sg n), [.int n]) := by
  unfold sg
  by_cases h : 0 < n <;> simp [m_sign_of_letter, mDef, finB, outsOf, h]
theorem sign_l (n : Int) : m_law_sign [.int n] = some (.int (sg n), [.int n]) := by
  unfold sg
  by_cases h : 0 < n <;> simp [m_law_sign, mDef, finB, outsOf, h]
def rdS (n : Int) : List Int → List PyData
  | [] => []
  | l :: w => if l = 2 ∨ l = -2 then .tuple [.int (n - 1), .int n] :: rdS (n + 1) w else .tuple [.int 0, .int (n - 1)] :: rdS n w
def cn (n : Int) : List Int → Int
  | [] => n
  | l :: w => if l = 2 ∨ l = -2 then cn (n + 1) w else cn n w
def netD (b : Int) (w : List Int) : PyData := .tuple [.int (cn (2 - b) w), .tuple (rdS (2 - b) w), .tuple ((w.map sg).map .int), .tuple [.int 0, .int (cn (2 - b) w - 1)]]
theorem abs2 (l : Int) : ((if l < 0 then -l else l) = 2) ↔ (l = 2 ∨ l = -2) := by omega
theorem rdS_len (w : List Int) : ∀ n, (rdS n w).length = w.length := by
  induction w with
  | nil => intro n; rfl
  | cons l w ih =>
    intro n
    unfold rdS
    split <;> simp [ih]
theorem rdS_imm (w : List Int) : ∀ n, immA (rdS n w) = true := by
  induction w with
  | nil => intro n; rfl
  | cons l w ih =>
    intro n
    unfold rdS
    split <;> simp [ih]
theorem immA_ints (w : List Int) : immA (w.map .int) = true := by
  induction w with
  | nil => rfl
  | cons l w ih => simp [ih]
theorem built_loop : ∀ (w : List Int) (n : Int) (rs : List PyData) (S B W : PyData) (c : Option PyData), rs.length + w.length ≤ 1000 → ∃ c', loopB (gNm 1) b0_built_net
    (w.map PyData.int) [some S, c, some B, some W, some (.int n), some (.list rs)] = some (.nx [some S, c', some B, some W, some (.int (cn n w)), some (.list (rs ++ rdS n w))])
  | [], n, rs, S, B, W, c, h => ⟨c, by simp [loopB, cn, rdS]⟩
  | l :: w, n, rs, S, B, W, c, h => by
    rw [List.length_cons] at h
    have hr : rs.length ≤ 1000000 := by omega
    rw [List.map_cons]
    unfold cn rdS
    by_cases hl : l = 2 ∨ l = -2
    · obtain ⟨c', ih⟩ := built_loop w (n + 1) (rs ++ [.tuple [.int (n - 1), .int n]]) S B W (some (.int l)) (by simp; omega)
      have hs : b0_built_net [some S, some (.int l), some B, some W, some (.int n), some (.list rs)] = some (.nx [some S, some (.int l), some B, some W, some (.int (n + 1)), some (.list (rs ++ [.tuple [.int (n - 1), .int n]]))]) := by
        simp [b0_built_net, abs2, hl, hr]
      refine ⟨c', (loopB_nx rfl hs).trans ?_⟩
      simpa [hl] using ih
    · obtain ⟨c', ih⟩ := built_loop w n (rs ++ [.tuple [.int 0, .int (n - 1)]]) S B W (some (.int l)) (by simp; omega)
      have hs : b0_built_net [some S, some (.int l), some B, some W, some (.int n), some (.list rs)] = some (.nx [some S, some (.int l), some B, some W, some (.int n), some (.list (rs ++ [.tuple [.int 0, .int (n - 1)]]))]) := by
        simp [b0_built_net, abs2, hl, hr]
      refine ⟨c', (loopB_nx rfl hs).trans ?_⟩
      simpa [hl] using ih
theorem built_p (b : Int) (w : List Int) (hw : w.length ≤ 100) : m_built_net [st b w] = some (netD b w, [st b w]) := by
  obtain ⟨c', h⟩ := built_loop w (2 - b) [] (st b w) (.int b) (wD w) none (by simp; omega)
  have hc : ∀ c' N R, c0_built_net [some (st b w), c', some (.int b), some (wD w), N, R] = some (.list ((w.map sg).map .int), [some (st b w), c', some (.int b), some (wD w), N, R]) := by
    intro c' N R
    have := mComp_m (it := mIt (mVar 3)) (g := gNm 1) (m := mCall .frz 1 m_sign_of_letter (mA (mVal (mVar 1)) mA0)) (vs := [1]) (e := [some (st b w), c', some (.int b), some (wD w), N, R]) (e1 := [some (st b w), c', some (.int b), some (wD w), N, R]) (ds := w.map .int)
      (fun d => match d with | .int i => .int (sg i) | d => d) (by simp [wD]) (by simp; omega) fun d hd => by
        obtain ⟨i, _, rfl⟩ := List.mem_map.mp hd
        simp [wipeE, sign_p]
    unfold c0_built_net
    rw [this]
    simp [Function.comp_def]
  unfold m_built_net mDef
  simp only [List.nil_append] at h
  have himm := rdS_imm w (2 - b)
  simp only [st, wD] at h hc ⊢
  simp [h, hc, finB, outsOf, netD, himm]
theorem net_loop : ∀ (w : List Int) (n : Int) (rs sgs : List PyData) (S : PyData) (c : Option PyData), rs.length + w.length ≤ 1000 → sgs.length + w.length ≤ 1000 → ∃ c', loopB (gNm 1) b0_law_net
    (w.map PyData.int) [some S, c, some (.int n), some (.list rs), some (.list sgs)] = some (.nx [some S, c', some (.int (cn n w)), some (.list (rs ++ rdS n w)), some (.list (sgs ++ (w.map sg).map .int))])
  | [], n, rs, sgs, S, c, h, h2 => ⟨c, by simp [loopB, cn, rdS]⟩
  | l :: w, n, rs, sgs, S, c, h, h2 => by
    rw [List.length_cons] at h h2
    have hr : rs.length ≤ 1000000 := by omega
    have hs : sgs.length ≤ 1000000 := by omega
    have e2 : n + 1 - 2 = n - 1 := by omega
    have e3 : n + 1 - 1 = n := by omega
    rw [List.map_cons]
    unfold cn rdS
    by_cases hl : l = 2 ∨ l = -2
    · obtain ⟨c', ih⟩ := net_loop w (n + 1) (rs ++ [.tuple [.int (n - 1), .int n]]) (sgs ++ [.int (sg l)]) S (some (.int l)) (by simp; omega) (by simp; omega)
      have hl' : 2 = l ∨ -2 = l := by omega
      have hb : b0_law_net [some S, some (.int l), some (.int n), some (.list rs), some (.list sgs)] = some (.nx [some S, some (.int l), some (.int (n + 1)), some (.list (rs ++ [.tuple [.int (n - 1), .int n]])), some (.list (sgs ++ [.int (sg l)]))]) := by
        simp [b0_law_net, hl, hl', hr, hs, e2, e3, sign_l]
      refine ⟨c', (loopB_nx rfl hb).trans ?_⟩
      simpa [hl] using ih
    · obtain ⟨c', ih⟩ := net_loop w n (rs ++ [.tuple [.int 0, .int (n - 1)]]) (sgs ++ [.int (sg l)]) S (some (.int l)) (by simp; omega) (by simp; omega)
      have hl' : ¬ (2 = l ∨ -2 = l) := by omega
      have hb : b0_law_net [some S, some (.int l), some (.int n), some (.list rs), some (.list sgs)] = some (.nx [some S, some (.int l), some (.int n), some (.list (rs ++ [.tuple [.int 0, .int (n - 1)]])), some (.list (sgs ++ [.int (sg l)]))]) := by
        simp [b0_law_net, hl, hl', hr, hs, sign_l]
      refine ⟨c', (loopB_nx rfl hb).trans ?_⟩
      simpa [hl] using ih
theorem net_l (b : Int) (w : List Int) (hw : w.length ≤ 100) : m_law_net [st b w] = some (netD b w, [st b w]) := by
  obtain ⟨c', h⟩ := net_loop w (2 - b) [] [] (st b w) none (by simp; omega) (by simp; omega)
  unfold m_law_net mDef
  simp only [List.nil_append] at h
  have himm := rdS_imm w (2 - b)
  have him2 := immA_ints (w.map sg)
  simp only [st, wD] at h ⊢
  simp only [List.map_map] at h him2
  simp [h, finB, outsOf, netD, himm, him2, atI_zero, atI_one]

/-! ### signed nets -/
theorem whole_p (d : PyData) : m_is_whole_number [d] = some (.bool (isInt d && !isBool d), [d]) := by
  cases h : isInt d <;> simp [m_is_whole_number, mDef, finB, outsOf, h]
theorem below_p (i n : Int) : m_is_below [.int i, .int n] = some (.bool (decide (0 ≤ i) && decide (i < n)), [.int i, .int n]) := by
  by_cases h : 0 ≤ i <;> simp [m_is_below, mDef, finB, outsOf, whole_p, h]
theorem sgn_p (i : Int) : m_is_sign [.int i] = some (.bool (decide (1 = i) || decide (-1 = i)), [.int i]) := by
  simp [m_is_sign, mDef, finB, outsOf, whole_p]
theorem cn_ge (w : List Int) : ∀ n, n ≤ cn n w := by
  induction w with
  | nil => intro n; exact Int.le_refl n
  | cons l w ih =>
    intro n
    unfold cn
    split
    · have := ih (n + 1); omega
    · exact ih n
/-- what each road of rdS n w is -/
theorem rdS_mem (w : List Int) : ∀ n, 1 ≤ n → ∀ d ∈ rdS n w, ∃ a b : Int, d = .tuple [.int a, .int b] ∧ 0 ≤ a ∧ a ≤ b ∧ b < cn n w := by
  induction w with
  | nil => intro n _ d hd; cases hd
  | cons l w ih =>
    intro n hn d hd
    unfold rdS at hd
    unfold cn
    have h1 := cn_ge w (n + 1)
    have h2 := cn_ge w n
    split at hd
    · rename_i hl
      rw [if_pos hl]
      rcases List.mem_cons.mp hd with rfl | hd
      · exact ⟨n - 1, n, rfl, by omega, by omega, by omega⟩
      · exact ih (n + 1) (by omega) d hd
    · rename_i hl
      rw [if_neg hl]
      rcases List.mem_cons.mp hd with rfl | hd
      · exact ⟨0, n - 1, rfl, by omega, by omega, by omega⟩
      · exact ih n hn d hd
theorem signed_p (b : Int) (w : List Int) (hb : b = 0 ∨ b = 1) (hw : w.length ≤ 100) : m_is_signed_net [netD b w] = some (.bool true, [netD b w]) := by
  have hN : 1 ≤ cn (2 - b) w := by have := cn_ge w (2 - b); omega
  have hR := rdS_mem w (2 - b) (by omega)
  have hl := rdS_len w (2 - b)
  unfold netD
  generalize cn (2 - b) w = N at *
  generalize rdS (2 - b) w = R at *
  have hgs : ∀ g ∈ w.map sg, 1 = g ∨ -1 = g := fun g hg => by
    obtain ⟨j, _, rfl⟩ := List.mem_map.mp hg
    unfold sg
    split <;> simp
  have hgl : (w.map sg).length = w.length := List.length_map ..
  generalize w.map sg = gs at *
  have h0 : ∀ x y z, c0_is_signed_net [some (.tuple [.int N, .tuple R, .tuple (gs.map .int), .tuple [.int 0, .int (N - 1)]]), x, y, z] = some (.list [.bool true, .bool true, .bool true], [some (.tuple [.int N, .tuple R, .tuple (gs.map .int), .tuple [.int 0, .int (N - 1)]]), x, y, z]) := by
    intro x y z
    simp [c0_is_signed_net, mComp, cutD_from, compL, wipeE, backE]
  have h1 : ∀ (a c : Int) y z, 0 ≤ a → a ≤ c → c < N → b0_is_signed_net [some (.tuple [.int N, .tuple R, .tuple (gs.map .int), .tuple [.int 0, .int (N - 1)]]), some (.tuple [.int a, .int c]), y, z] = some (.nx [some (.tuple [.int N, .tuple R, .tuple (gs.map .int), .tuple [.int 0, .int (N - 1)]]), some (.tuple [.int a, .int c]), y, z]) := by
    intro a c y z h1 h2 h3
    have e1 : c1_is_signed_net [some (.tuple [.int N, .tuple R, .tuple (gs.map .int), .tuple [.int 0, .int (N - 1)]]), some (.tuple [.int a, .int c]), y, z] = some (.list [.bool true, .bool true], [some (.tuple [.int N, .tuple R, .tuple (gs.map .int), .tuple [.int 0, .int (N - 1)]]), some (.tuple [.int a, .int c]), y, z]) := by
      have a1 : 0 ≤ c := by omega
      have a2 : a < N := by omega
      simp [c1_is_signed_net, mComp, compL, wipeE, backE, below_p, atI_zero, h1, h3, a1, a2]
    have a3 : ¬ c < a := by omega
    have e2 : allD [.list [.bool true, .bool true]] = some (.bool true) := rfl
    simp [b0_is_signed_net, e1, e2, atI_zero, atI_one, a3]
  have h2 : ∀ x, ∃ x', loopB (gNm 1) b0_is_signed_net R [some (.tuple [.int N, .tuple R, .tuple (gs.map .int), .tuple [.int 0, .int (N - 1)]]), x, none, none] = some (.nx [some (.tuple [.int N, .tuple R, .tuple (gs.map .int), .tuple [.int 0, .int (N - 1)]]), x', none, none]) := by
    intro x
    obtain ⟨e', h, x', rfl⟩ := loopB_inv (g := gNm 1) (body := b0_is_signed_net) (S := Unit) (R := fun _ e => ∃ x', e = [some (.tuple [.int N, .tuple R, .tuple (gs.map .int), .tuple [.int 0, .int (N - 1)]]), x', none, none]) (fun _ _ => ()) (ds := R) (s := ()) ⟨x, rfl⟩ fun d hd _ e he => by
      obtain ⟨x', rfl⟩ := he
      obtain ⟨a, c, rfl, g1, g2, g3⟩ := hR d hd
      exact ⟨_, _, rfl, .inl (h1 a c none none g1 g2 g3), _, rfl⟩
    exact ⟨x', h⟩
  obtain ⟨x', h2⟩ := h2 none
  have h3 : ∀ x y z, c2_is_signed_net [some (.tuple [.int N, .tuple R, .tuple (gs.map .int), .tuple [.int 0, .int (N - 1)]]), x, y, z] = some (.list (List.replicate gs.length (.bool true)), [some (.tuple [.int N, .tuple R, .tuple (gs.map .int), .tuple [.int 0, .int (N - 1)]]), x, y, z]) := by
    intro x y z
    have := mComp_m (it := mIt (mBin itemD (mVal (mVar 0)) (mVal (ret (.int 2))))) (g := gNm 2) (m := mCall .frz 1 m_is_sign (mA (mVal (mVar 2)) mA0)) (vs := [2]) (e := [some (.tuple [.int N, .tuple R, .tuple (gs.map .int), .tuple [.int 0, .int (N - 1)]]), x, y, z]) (e1 := [some (.tuple [.int N, .tuple R, .tuple (gs.map .int), .tuple [.int 0, .int (N - 1)]]), x, y, z]) (ds := gs.map .int)
      (fun d => .bool true) (by simp [atI_two]) (by simp; omega) fun d hd => by
        obtain ⟨i, hi, rfl⟩ := List.mem_map.mp hd
        simp [wipeE, sgn_p, hgs i hi]
    unfold c2_is_signed_net
    rw [this, List.map_map, ← List.map_const']
    simp [Function.comp_def]
  have h4 : ∀ x y z, c3_is_signed_net [some (.tuple [.int N, .tuple R, .tuple (gs.map .int), .tuple [.int 0, .int (N - 1)]]), x, y, z] = some (.list [.bool true, .bool true], [some (.tuple [.int N, .tuple R, .tuple (gs.map .int), .tuple [.int 0, .int (N - 1)]]), x, y, z]) := by
    intro x y z
    have a1 : 0 ≤ N - 1 := by omega
    have a2 : 0 < N := by omega
    have a3 : N - 1 < N := by omega
    simp [c3_is_signed_net, mComp, compL, wipeE, backE, below_p, atI_zero, atI_three, hN, a2, a3]
  have e2 : allD [.list [.bool true, .bool true]] = some (.bool true) := rfl
  have e3 : allD [.list [.bool true, .bool true, .bool true]] = some (.bool true) := rfl
  have hN2 : ¬ N < 1 := by omega
  unfold m_is_signed_net mDef
  simp [finB, outsOf, whole_p, atI_zero, atI_one, atI_two, hN2, h0, e3, hl, hgl, h2, h3, h4, e2]

/-! ### drawn states -/
theorem of_is : m_law_of = mmOf := rfl
theorem sg_or (n : Int) : sg n = 1 ∨ sg n = -1 := by unfold sg; split <;> simp
theorem atI_last' {w : List Int} (h : w ≠ []) : ∃ x, x ∈ w ∧ atI (w.map PyData.int) (-1) = some (.int x) := by
  have e : w.map PyData.int = w.dropLast.map PyData.int ++ [.int (w.getLast h)] := by
    rw [← List.map_singleton, ← List.map_append, List.dropLast_concat_getLast]
  exact ⟨w.getLast h, List.getLast_mem h, by rw [e]; exact atI_last _ _⟩
theorem state_step (s : Src) (most lap b x6 : Option PyData) (w : List Int) (way : Int) (hl : w.length ≤ 100) : ∃ s' l x6', Ltr l ∧
    b0_law_state [some (srcDt s), most, lap, b, some (wD w), some (.int way), x6] = some (.nx [some (srcDt s'), most, lap, b, some (wD (w ++ [l])), some (.int way), x6']) := by
  obtain ⟨d, s1, hd, h1⟩ := of_ex s (ds := [.int 1, .int (-1), .int 2, .int (-2)]) (by simp) (by simp)
  obtain ⟨l, rfl, hL⟩ : ∃ l, d = .int l ∧ Ltr l := by
    unfold Ltr
    simp at hd
    rcases hd with rfl | rfl | rfl | rfl <;> exact ⟨_, rfl, by simp⟩
  obtain ⟨r, s2, h2, h3, h4⟩ := pick_ex s1 3 (by decide)
  have hz : w.length + 1 ≤ sizeLine := by rw [sizeLine_eq]; omega
  have him := immA_ints w
  by_cases hw : way = 0
  · cases w with
    | nil =>
      refine ⟨s1, l, some (.int l), hL, ?_⟩
      have hz1 : 1 ≤ sizeLine := by rw [sizeLine_eq]; decide
      simp [b0_law_state, of_is, h1, hw, wD, neD_t, hz1]
    | cons a w =>
      obtain ⟨x, hx, hx2⟩ := atI_last' (w := a :: w) (by simp)
      rw [List.map_cons] at hx2
      have hz2 : w.length + 1 + 1 ≤ sizeLine := by simpa using hz
      rw [List.map_cons, immA_cons] at him
      simp only [imm_i, Bool.true_and] at him
      by_cases hr : 0 < r
      · have hm : mulOk (if l < 0 then -l else l) (sg x) = true := mulOk_l (by unfold Ltr at hL; split <;> omega)
        refine ⟨s2, (if l < 0 then -l else l) * sg x, some (.int ((if l < 0 then -l else l) * sg x)), ?_, ?_⟩
        · rcases sg_or x with e | e <;> rw [e] <;> unfold Ltr at hL ⊢ <;> split <;> omega
        · simp [b0_law_state, of_is, pick_is, h1, h2, hw, hr, hx2, hm, hz2, him, wD, neD_t, sign_l]
      · refine ⟨s2, l, some (.int l), hL, ?_⟩
        simp [b0_law_state, of_is, pick_is, h1, h2, hw, hr, hz2, him, wD, neD_t, sign_l]
  · refine ⟨s1, l, some (.int l), hL, ?_⟩
    simp [b0_law_state, of_is, pick_is, h1, hw, hz, him, wD, neD_t, sign_l]
theorem state_l (s : Src) (most : Int) (h0 : 0 ≤ most) (h1 : most ≤ 50) : ∃ b w s', (b = 0 ∨ b = 1) ∧ (∀ l ∈ w, Ltr l) ∧ w.length ≤ 50 ∧ m_law_state [srcDt s, .int most] = some (st b w, [srcDt s', .int most]) := by
  obtain ⟨r1, s1, h1', lo1, hi1⟩ := pick_ex s 4 (by decide)
  obtain ⟨r2, s2, h2, lo2, hi2⟩ := pick_ex s1 3 (by decide)
  obtain ⟨r3, s3, h3, lo3, hi3⟩ := pick_ex s2 (most + 1) (by omega)
  obtain ⟨e', g1, s', w', lap', x6', rfl, g2, g3⟩ := loopB_ix (g := gNm 2) (body := b0_law_state) (ds := rngL 0 r3.toNat) (e := [some (srcDt s3), some (.int most), none, some (.int (r1.fdiv 3)), some (wD []), some (.int r2), none])
    (fun k e => ∃ s' w lap x6, e = [some (srcDt s'), some (.int most), lap, some (.int (r1.fdiv 3)), some (wD w), some (.int r2), x6] ∧ (∀ l ∈ w, Ltr l) ∧ w.length = k) ⟨s3, [], none, none, rfl, (fun l hl => nomatch hl), rfl⟩ fun k d hk e he => by
      obtain ⟨s', w, lap, x6, rfl, k1, k2⟩ := he
      have hk' : k < r3.toNat := by have := (List.getElem?_eq_some_iff.mp hk).1; simpa using this
      obtain ⟨s'', l, x6', q1, q2⟩ := state_step s' (some (.int most)) (some d) (some (.int (r1.fdiv 3))) x6 w r2 (by omega)
      refine ⟨_, _, rfl, .inl q2, s'', w ++ [l], _, _, rfl, fun y hy => ?_, by simp [k2]⟩
      rcases List.mem_append.mp hy with hy | hy
      · exact k1 y hy
      · rw [List.mem_singleton.mp hy]; exact q1
  rw [rngL_len] at g3
  have e1 : r1.fdiv 3 = 0 ∨ r1.fdiv 3 = 1 := by
    have : r1 = 0 ∨ r1 = 1 ∨ r1 = 2 ∨ r1 = 3 := by omega
    rcases this with rfl | rfl | rfl | rfl
    · exact .inl rfl
    · exact .inl rfl
    · exact .inl rfl
    · exact .inr rfl
  refine ⟨r1.fdiv 3, w', s', e1, g2, by omega, ?_⟩
  have hm : (most + 1).natAbs < 1073741824 := by omega
  have hr : rg1 [.int r3] = some (rngL 0 r3.toNat) := rg1_i (by omega)
  have hw0 : wD [] = .tuple [] := rfl
  rw [hw0] at g1
  simp [m_law_state, mDef, finB, outsOf, pick_is, h1', h2, h3, hr, g1, st]

/-! ### what is a state -/
def okL : PyData → Bool
  | .int i => decide (1 = i) || (decide (-1 = i) || (decide (2 = i) || decide (-2 = i)))
  | _ => false
theorem word_t (xs : List PyData) (hl : xs.length ≤ 1000000) : m_is_build_word [.tuple xs] = some (.bool (xs.all okL), [.tuple xs]) := by
  have h0 : ∀ y, c0_is_build_word [some (.tuple xs), y] = some (.list ((xs.map okL).map .bool), [some (.tuple xs), y]) := by
    intro y
    have := mComp_m (it := mIt (mVar 0)) (g := gNm 1) (m := mAndV (mIsi "int" (mVal (mVar 1))) (mAndV (mNotV (mIsi "bool" (mVal (mVar 1)))) (mBin inD (mVal (mVar 1)) (mVal (mTup (mA (mVal (ret (.int 1))) (mA (mVal (mUn negD (mVal (ret (.int 1))))) (mA (mVal (ret (.int 2))) (mA (mVal (mUn negD (mVal (ret (.int 2))))) mA0)))))))))
      (vs := [1]) (e := [some (.tuple xs), y]) (e1 := [some (.tuple xs), y]) (ds := xs) (fun d => .bool (okL d)) (by simp) hl fun d hd => by
        cases d <;> simp [wipeE, okL]
    unfold c0_is_build_word
    rw [this, List.map_map]
    rfl
  have e1 : (xs.map okL).all id = xs.all okL := by rw [List.all_map]; rfl
  simp only [List.map_map] at h0
  unfold m_is_build_word mDef
  have e2 : allD [.list (xs.map (PyData.bool ∘ okL))] = some (.bool (xs.all okL)) := by
    rw [← List.map_map, allD_bools, e1]
  simp [finB, outsOf, h0, e2]
theorem word_o (d : PyData) (h : isTup d = false) : m_is_build_word [d] = some (.bool false, [d]) := by
  simp [m_is_build_word, mDef, finB, outsOf, h]
def isW : PyData → Bool
  | .tuple xs => xs.all okL
  | _ => false
def isB : PyData → Bool
  | .int i => decide (0 = i) || decide (1 = i)
  | _ => false
def isS : PyData → Bool
  | .tuple [a, b] => isW b && isB a
  | _ => false
def short : PyData → Prop
  | .tuple xs => xs.length ≤ 100000
  | _ => True
theorem word_p (d : PyData) (h : short d) : m_is_build_word [d] = some (.bool (isW d), [d]) := by
  cases d with
  | tuple xs => exact word_t xs (by unfold short at h; omega)
  | _ => exact word_o _ rfl
theorem state_p2 (a b : PyData) (h : short b) : m_is_build_state [.tuple [a, b]] = some (.bool (isS (.tuple [a, b])), [.tuple [a, b]]) := by
  unfold isS
  cases hw : isW b <;> cases a <;> simp [m_is_build_state, mDef, finB, outsOf, atI_zero, atI_one, word_p b h, hw, isB]
theorem state_pl (xs : List PyData) (h : xs.length ≠ 2) : m_is_build_state [.tuple xs] = some (.bool false, [.tuple xs]) := by
  have h' : ¬ (xs.length : Int) = 2 := by omega
  simp [m_is_build_state, mDef, finB, outsOf, h']
theorem state_po (d : PyData) (h : isTup d = false) : m_is_build_state [d] = some (.bool false, [d]) := by
  simp [m_is_build_state, mDef, finB, outsOf, h]
theorem lstate_pl (xs : List PyData) (h : xs.length ≠ 2) : m_law_is_state [.tuple xs] = some (.bool false, [.tuple xs]) := by
  have h' : ¬ (xs.length : Int) = 2 := by omega
  simp [m_law_is_state, mDef, finB, outsOf, h']
theorem lstate_po (d : PyData) (h : isTup d = false) : m_law_is_state [d] = some (.bool false, [d]) := by
  simp [m_law_is_state, mDef, finB, outsOf, h]
theorem lstate_p2o (a b : PyData) (h : isTup b = false) : m_law_is_state [.tuple [a, b]] = some (.bool false, [.tuple [a, b]]) := by
  simp [m_law_is_state, mDef, finB, outsOf, atI_one, h]
def badI (d : PyData) : Bool := !isInt d || isBool d
theorem filter_bad (xs : List PyData) : (xs.filter badI = []) ↔ ∀ x ∈ xs, ∃ i, x = .int i := by
  rw [List.filter_eq_nil_iff]
  constructor
  · intro h x hx
    have := h x hx
    cases x <;> first | exact ⟨_, rfl⟩ | exact absurd rfl this
  · intro h x hx
    obtain ⟨i, rfl⟩ := h x hx
    exact Bool.false_ne_true
theorem lay_filter {p : PyData → Bool} : ∀ {xs : List PyData}, PyData.canLayAll0 xs = true → PyData.canLayAll0 (xs.filter p) = true
  | [], _ => by simp
  | x :: xs, h => by
    rw [layA_cons, Bool.and_eq_true] at h
    rw [List.filter_cons]
    split
    · rw [layA_cons, h.1, lay_filter h.2]; rfl
    · exact lay_filter h.2
theorem dep_filter {p : PyData → Bool} : ∀ {xs : List PyData}, PyData.depthAll (xs.filter p) ≤ PyData.depthAll xs
  | [] => by simp
  | x :: xs => by
    have := dep_filter (p := p) (xs := xs)
    rw [List.filter_cons]
    split
    · rw [depA_cons, depA_cons]; omega
    · rw [depA_cons]; omega
theorem lstate_p2 (a : PyData) (xs : List PyData) (hl : xs.length ≤ 100000) (ha : PyData.canLayAll0 (a :: xs) = true) (hd : PyData.depthAll (a :: xs) ≤ 60) : m_law_is_state [.tuple [a, .tuple xs]] = some (.bool (isS (.tuple [a, .tuple xs])), [.tuple [a, .tuple xs]]) := by
  have hz : 1 + xs.length ≤ sizeLine := by rw [sizeLine_eq]; omega
  have h0 : ∀ y z, c0_law_is_state [some (.tuple [a, .tuple xs]), y, z] = some (.list ((a :: xs).filter badI), [some (.tuple [a, .tuple xs]), y, z]) := by
    intro y z
    have := mComp_fm (it := mIt (mBin addD (mVal (mTup (mA (mVal (mBin itemD (mVal (mVar 0)) (mVal (ret (.int 0))))) mA0))) (mVal (mBin itemD (mVal (mVar 0)) (mVal (ret (.int 1))))))) (g := gNm 2) (t := mOr (mNot (mTest (mIsi "int" (mVal (mVar 2))))) (mTest (mIsi "bool" (mVal (mVar 2))))) (m := mVar 2)
      (vs := [2]) (e := [some (.tuple [a, .tuple xs]), y, z]) (e1 := [some (.tuple [a, .tuple xs]), y, z]) (ds := a :: xs) badI (fun d => d) (by simp [atI_zero, atI_one, hz]) (by simp; omega) fun d hd => by
        cases h1 : isInt d <;> cases h2 : isBool d <;> simp [wipeE, badI, h1, h2]
    unfold c0_law_is_state
    rw [this]
    simp
  have hs : SeqAt.shaped (.list ((a :: xs).filter badI)) = true := by
    rw [shaped_ap, lay_l, lay_filter ha, dep_l]
    have := dep_filter (p := badI) (xs := a :: xs)
    simp only [Bool.true_and, decide_eq_true_eq]
    omega
  by_cases hf : (a :: xs).filter badI = []
  · have hi := (filter_bad (a :: xs)).mp hf
    obtain ⟨i, rfl⟩ := hi a (by simp)
    obtain ⟨ns, rfl⟩ : ∃ ns : List Int, xs = ns.map .int := by
      have hx : ∀ x ∈ xs, ∃ i, x = .int i := fun x hx => hi x (by simp [hx])
      clear hf hi h0 hs hl ha hd hz
      induction xs with
      | nil => exact ⟨[], rfl⟩
      | cons x xs ih =>
        obtain ⟨n, rfl⟩ := hx x (by simp)
        obtain ⟨ns, rfl⟩ := ih fun y hy => hx y (by simp [hy])
        exact ⟨n :: ns, rfl⟩
    have h1 : ∀ y z, c1_law_is_state [some (.tuple [.int i, .tuple (ns.map .int)]), y, z] = some (.list ((ns.map .int).filter fun d => !okL d), [some (.tuple [.int i, .tuple (ns.map .int)]), y, z]) := by
      intro y z
      have := mComp_fm (it := mIt (mBin itemD (mVal (mVar 0)) (mVal (ret (.int 1))))) (g := gNm 2) (t := mTest (mBin notInD (mVal (mVar 2)) (mVal (mTup (mA (mVal (ret (.int 1))) (mA (mVal (mUn negD (mVal (ret (.int 1))))) (mA (mVal (ret (.int 2))) (mA (mVal (mUn negD (mVal (ret (.int 2))))) mA0)))))))) (m := mVar 2)
        (vs := [2]) (e := [some (.tuple [.int i, .tuple (ns.map .int)]), y, z]) (e1 := [some (.tuple [.int i, .tuple (ns.map .int)]), y, z]) (ds := ns.map .int) (fun d => !okL d) (fun d => d) (by simp [atI_one]) (by omega) fun d hd => by
          obtain ⟨j, _, rfl⟩ := List.mem_map.mp hd
          simp [wipeE, okL]
      unfold c1_law_is_state
      rw [this]
      simp
    have hs2 : SeqAt.shaped (.list ((ns.map PyData.int).filter fun d => !okL d)) = true := by
      rw [shaped_ap, lay_l, lay_filter layA_ints, dep_l]
      have := dep_filter (p := fun d => !okL d) (xs := ns.map PyData.int)
      rw [depA_ints] at this
      simp only [Bool.true_and, decide_eq_true_eq]
      omega
    have hq : PyData.eqvAll ((ns.map PyData.int).filter fun d => !okL d) [] = (ns.map PyData.int).all okL := by
      cases hq : (ns.map PyData.int).filter fun d => !okL d with
      | nil =>
        rw [List.filter_eq_nil_iff] at hq
        rw [eqvA_nil, eq_comm, List.all_eq_true]
        intro x hx
        have := hq x hx
        simpa using this
      | cons y ys =>
        rw [eqvA_cn, eq_comm, List.all_eq_false]
        have : y ∈ (ns.map PyData.int).filter fun d => !okL d := by rw [hq]; simp
        obtain ⟨g1, g2⟩ := List.mem_filter.mp this
        exact ⟨y, g1, by simpa using g2⟩
    rw [hf] at h0
    have he : eqD (.list ((ns.map PyData.int).filter fun d => !okL d)) (.list []) = some (.bool ((ns.map PyData.int).all okL)) := by
      rw [eqD_l, hs2, hq]
      simp
    have he0 : eqD (.list []) (.list []) = some (.bool true) := rfl
    unfold isS isW isB
    by_cases hb : 0 = i ∨ 1 = i
    · have hb2 : (decide (0 = i) || decide (1 = i)) = true := by simpa using hb
      simp only [m_law_is_state, mDef, finB, outsOf]
      simp [atI_zero, atI_one, h0, h1, he, he0, hb, hb2]
      rfl
    · have hb2 : (decide (0 = i) || decide (1 = i)) = false := by simpa using hb
      simp only [m_law_is_state, mDef, finB, outsOf]
      simp [atI_zero, atI_one, h0, h1, he, he0, hb, hb2]
      rfl
  · have he : eqD (.list ((a :: xs).filter badI)) (.list []) = some (.bool false) := by
      rw [eqD_l, hs]
      cases hq : (a :: xs).filter badI with
      | nil => exact absurd hq hf
      | cons y ys => simp
    have hn : isS (.tuple [a, .tuple xs]) = false := by
      have h1 : ¬ ∀ x ∈ a :: xs, ∃ i, x = .int i := fun z => hf ((filter_bad _).mpr z)
      unfold isS isW
      rw [Bool.and_eq_false_iff]
      by_cases h2 : ∃ i, a = .int i
      · left
        rw [List.all_eq_false]
        apply Classical.byContradiction
        intro h3
        apply h1
        intro x hx
        rcases List.mem_cons.mp hx with rfl | hx
        · exact h2
        · cases x with
          | int i => exact ⟨i, rfl⟩
          | _ => exact absurd ⟨_, hx, by simp [okL]⟩ h3
      · right
        cases a with
        | int i => exact absurd ⟨i, rfl⟩ h2
        | _ => rfl
    rw [hn]
    simp [m_law_is_state, mDef, finB, outsOf, atI_zero, atI_one, h0, he]

/-! ### the law's checks -/
theorem cn_snoc (w : List Int) (l : Int) : ∀ n, cn n (w ++ [l]) = cn n w + (if l = 2 ∨ l = -2 then 1 else 0) := by
  induction w with
  | nil =>
    intro n
    show (if l = 2 ∨ l = -2 then n + 1 else n) = _
    unfold cn
    split <;> omega
  | cons a w ih =>
    intro n
    rw [List.cons_append]
    unfold cn
    split <;> exact ih _
theorem rdS_snoc (w : List Int) (l : Int) : ∀ n, ∃ x, rdS n (w ++ [l]) = rdS n w ++ [x] := by
  induction w with
  | nil =>
    intro n
    rw [List.nil_append]
    unfold rdS
    split
    · exact ⟨_, rfl⟩
    · exact ⟨_, rfl⟩
  | cons a w ih =>
    intro n
    rw [List.cons_append]
    unfold rdS
    split
    · obtain ⟨x, h⟩ := ih (n + 1)
      exact ⟨x, by rw [h]; rfl⟩
    · obtain ⟨x, h⟩ := ih n
      exact ⟨x, by rw [h]; rfl⟩
theorem cn_count (w : List Int) : ∀ n, cn n w = n + ((w.filter fun l => decide (l = 2 ∨ l = -2)).length : Int) := by
  induction w with
  | nil => intro n; simp [cn]
  | cons a w ih =>
    intro n
    unfold cn
    rw [List.filter_cons]
    by_cases h : a = 2 ∨ a = -2
    · rw [if_pos h, ih, if_pos (by simpa using h)]
      simp
      omega
    · rw [if_neg h, ih, if_neg (by simpa using h)]
theorem cn_le (w : List Int) : ∀ n, cn n w ≤ n + w.length := by
  intro n
  rw [cn_count]
  have := List.length_filter_le (fun l : Int => decide (l = 2 ∨ l = -2)) w
  omega
theorem rdS_fine (w : List Int) : ∀ n : Int, 0 ≤ n → n + w.length ≤ 1000 → okA (rdS n w) = true ∧ PyData.canLayAll0 (rdS n w) = true ∧ szA (rdS n w) = 149 * w.length ∧ PyData.depthAll (rdS n w) ≤ 1 := by
  induction w with
  | nil => intro n _ _; simp [rdS]
  | cons a w ih =>
    intro n h0 h
    rw [List.length_cons] at h
    unfold rdS
    have k1 : (n - 1).natAbs < 2 ^ 64 := by omega
    have k2 : n.natAbs < 2 ^ 64 := by omega
    split
    · obtain ⟨a1, a2, a3, a4⟩ := ih (n + 1) (by omega) (by omega)
      refine ⟨by simpa [a1] using ⟨k1, k2⟩, by simp [a2], by simp [a3]; omega, by simp; omega⟩
    · obtain ⟨a1, a2, a3, a4⟩ := ih n (by omega) (by omega)
      refine ⟨by simpa [a1] using k1, by simp [a2], by simp [a3]; omega, by simp; omega⟩
theorem net_fine (b : Int) (w : List Int) (hb : b = 0 ∨ b = 1) (hl : w.length ≤ 100) : Fine (netD b w) 100000 10 := by
  obtain ⟨a1, a2, a3, a4⟩ := rdS_fine w (2 - b) (by omega) (by omega)
  have h1 := cn_le w (2 - b)
  have h2 := cn_ge w (2 - b)
  have k1 : (cn (2 - b) w).natAbs < 2 ^ 64 := by omega
  have k2 : (cn (2 - b) w - 1).natAbs < 2 ^ 64 := by omega
  have k3 : okA ((w.map sg).map .int) = true := okA_ints fun n hn => by
    obtain ⟨j, _, rfl⟩ := List.mem_map.mp hn
    rcases sg_or j with e | e <;> rw [e] <;> decide
  have k4 : PyData.canLayAll0 ((w.map sg).map .int) = true := layA_ints
  have k5 : szA ((w.map sg).map .int) = 72 * w.length := by rw [szA_ints, List.length_map]
  have k6 : PyData.depthAll ((w.map sg).map .int) = 0 := depA_ints
  unfold netD
  generalize (w.map sg).map PyData.int = gs at *
  refine ⟨by simpa [a1, k3] using ⟨k1, k2⟩, by simp [a2, k4], by simp [a3, k5]; omega, by simp [k6]; omega⟩
theorem wD_fine {w : List Int} (hL : ∀ l ∈ w, Ltr l) (hl : w.length ≤ 100) : okA (w.map .int) = true ∧ PyData.canLayAll0 (w.map .int) = true ∧ szA (w.map .int) ≤ 7200 ∧ PyData.depthAll (w.map .int) = 0 :=
  ⟨okA_ints fun n hn => by have := hL n hn; unfold Ltr at this; omega, layA_ints, by rw [szA_ints]; omega, depA_ints⟩
theorem agree {v : PyData} (h : Fine v 100000 60) : ∃ q, m_is_build_state [v] = some (.bool q, [v]) ∧ m_law_is_state [v] = some (.bool q, [v]) := by
  cases v with
  | tuple xs =>
    by_cases hx : xs.length = 2
    · match xs, hx with
      | [a, b], _ =>
        cases b with
        | tuple ys =>
          have hl := h.lay
          have hd := h.dep
          have hs := h.size
          have hy := len_szA (xs := ys)
          simp at hl hd hs
          refine ⟨_, state_p2 a (.tuple ys) (by unfold short; omega), lstate_p2 a ys (by omega) (by simp [hl]) (by simp; omega)⟩
        | _ => exact ⟨false, by rw [state_p2 _ _ (by unfold short; trivial)]; simp [isS, isW], lstate_p2o _ _ rfl⟩
    · exact ⟨false, state_pl xs hx, lstate_pl xs hx⟩
  | _ => exact ⟨false, state_po _ rfl, lstate_po _ rfl⟩
theorem b1_step {v : PyData} (h : Fine v 100000 60) (a0 a1 a2 a3 a4 a5 a6 a7 a8 a9 a11 a12 a13 a14 a15 a16 : Option PyData) : b1_law [a0, a1, a2, a3, a4, a5, a6, a7, a8, a9, some v, a11, a12, a13, a14, a15, a16] =
    some (.nx [a0, a1, a2, a3, a4, a5, a6, a7, a8, a9, some v, a11, a12, a13, a14, a15, some (.str v.shown)]) := by
  obtain ⟨q, h1, h2⟩ := agree h
  have hr : reprOk v = true := h.repr (by decide) (by decide)
  have hq : reprOk (.bool q) = true := by cases q <;> rfl
  simp [b1_law, h1, h2, hr, hq]
theorem b0_step (b : Int) (w : List Int) (l : Int) (hb : b = 0 ∨ b = 1) (hL : ∀ l ∈ w, Ltr l) (hl : w.length ≤ 90) (a0 a1 a2 a3 a6 a7 a8 a9 a10 a13 a15 a16 : Option PyData) : b0_law [a0, a1, a2, a3, some (.int (cn (2 - b) w)), some (.int l), a6, a7, a8, a9, a10, some (.int b), some (wD w), a13, some (netD b w), a15, a16] =
    some (.nx [a0, a1, a2, a3, some (.int (cn (2 - b) w)), some (.int l), a6, a7, a8, a9, a10, some (.int b), some (wD w), a13, some (netD b w), some (netD b (w ++ [l])), a16]) := by
  have h1 := built_p b (w ++ [l]) (by simp; omega)
  have hz : w.length + 1 ≤ sizeLine := by rw [sizeLine_eq]; omega
  obtain ⟨x, hx⟩ := rdS_snoc w l (2 - b)
  obtain ⟨f1, f2, f3, f4⟩ := rdS_fine w (2 - b) (by omega) (by omega)
  have hsh : SeqAt.shaped (.tuple (rdS (2 - b) w)) = true := by simp [f2]; omega
  have hne := neD_same hsh
  have hs := cn_snoc w l (2 - b)
  simp only [st, wD, List.map_append, List.map_cons, List.map_nil] at h1
  by_cases hc : l = 2 ∨ l = -2
  · have hc' : 2 = l ∨ -2 = l := by omega
    rw [if_pos hc] at hs
    simp [b0_law, wD, hz, h1, netD, atI_zero, atI_one, hx, cutD_m1, hne, hs, hc']
  · have hc' : ¬ (2 = l ∨ -2 = l) := by omega
    rw [if_neg hc] at hs
    simp [b0_law, wD, hz, h1, netD, atI_zero, atI_one, hx, cutD_m1, hne, hs, hc']

theorem c0_eq (w : List Int) (hL : ∀ l ∈ w, Ltr l) (hl : w.length ≤ 100) (a0 a1 a2 a3 a4 a5 a6 a7 a8 a9 a10 a11 a13 a14 a15 a16 : Option PyData) : c0_law [a0, a1, a2, a3, a4, a5, a6, a7, a8, a9, a10, a11, some (wD w), a13, a14, a15, a16] =
    some (.list ((w.filter fun l => decide (l = 2 ∨ l = -2)).map .int), [a0, a1, a2, a3, a4, a5, a6, a7, a8, a9, a10, a11, some (wD w), a13, a14, a15, a16]) := by
  have := mComp_fm (it := mIt (mVar 12)) (g := gNm 5) (t := mTest (mBin inD (mVal (mVar 5)) (mVal (mTup (mA (mVal (ret (.int 2))) (mA (mVal (mUn negD (mVal (ret (.int 2))))) mA0)))))) (m := mVar 5) (vs := [5])
    (e := [a0, a1, a2, a3, a4, a5, a6, a7, a8, a9, a10, a11, some (wD w), a13, a14, a15, a16]) (e1 := [a0, a1, a2, a3, a4, a5, a6, a7, a8, a9, a10, a11, some (wD w), a13, a14, a15, a16]) (ds := w.map .int)
    (fun d => match d with | .int l => decide (2 = l) || decide (-2 = l) | _ => false) (fun d => d) (by simp [wD]) (by simp; omega) fun d hd => by
      obtain ⟨i, _, rfl⟩ := List.mem_map.mp hd
      simp [wipeE]
  unfold c0_law
  rw [this]
  have e : ∀ w : List Int, (((w.map PyData.int).filter fun d => match d with | .int l => decide (2 = l) || decide (-2 = l) | _ => false).map fun d => d) = (w.filter fun l => decide (l = 2 ∨ l = -2)).map .int := by
    intro w
    induction w with
    | nil => rfl
    | cons a w ih =>
      rw [List.map_cons, List.filter_cons, List.filter_cons]
      by_cases h : a = 2 ∨ a = -2
      · have h' : 2 = a ∨ -2 = a := by omega
        rw [if_pos (by simpa using h'), if_pos (by simpa using h), List.map_cons, List.map_cons, ih]
      · have h' : ¬ (2 = a ∨ -2 = a) := by omega
        rw [if_neg (by simpa using h'), if_neg (by simpa using h), ih]
  rw [e]
def OddF (d : PyData) : Prop := Fine d 200 2
theorem odd_fine {d : PyData} (h : d ∈ [PyData.none, .bool true, .int 0, .int 3, .int (-3), .str "1", .tuple [], .tuple [.int 1], .list [.int 1]]) : OddF d := by
  have hs : (reprText ("1" : Str)).length ≤ 200 := by decide +kernel
  have ho : PyData.strOk ("1" : Str) = true := by decide +kernel
  simp at h
  rcases h with rfl | rfl | rfl | rfl | rfl | rfl | rfl | rfl | rfl <;> exact ⟨by simp, by simp [ho], by simp [hs], by simp⟩
theorem values_fine {b : Int} {w : List Int} {odd : PyData} {k : Nat} (hb : b = 0 ∨ b = 1) (hL : ∀ l ∈ w, Ltr l) (hl : w.length ≤ 60) (ho : OddF odd) :
    ∀ v ∈ ([st b w, .tuple [.int b, .tuple ((w.map .int).take k ++ [odd] ++ (w.map .int).drop k)], .tuple [odd, wD w], .tuple [.int (1 - b), wD w], .list [.int b, wD w], .tuple [.int b, wD w, .int 0], .tuple [wD w, .int b], wD w,
      odd, .none, .tuple [], .tuple [.bool true, wD w], .tuple [.int b, odd], .tuple [.int b, .list (w.map .int)], .tuple [.int 2, wD w], .tuple [.int b]] : List PyData), Fine v 100000 60 := by
  obtain ⟨a1, a2, a3, a4⟩ := wD_fine hL (by omega)
  obtain ⟨o1, o2, o3, o4⟩ := ho
  have k1 : b.natAbs < 2 ^ 64 := by omega
  have k2 : (1 - b).natAbs < 2 ^ 64 := by omega
  have t : (w.map PyData.int).take k ++ (w.map PyData.int).drop k = w.map PyData.int := List.take_append_drop _ _
  have t1 : okA ((w.map PyData.int).take k) = true ∧ okA ((w.map PyData.int).drop k) = true := by rw [← t, okA_app, Bool.and_eq_true] at a1; exact a1
  have t2 : PyData.canLayAll0 ((w.map PyData.int).take k) = true ∧ PyData.canLayAll0 ((w.map PyData.int).drop k) = true := by rw [← t, layA_app, Bool.and_eq_true] at a2; exact a2
  have t3 : szA ((w.map PyData.int).take k) + szA ((w.map PyData.int).drop k) ≤ 7200 := by rw [← t, szA_app] at a3; exact a3
  have t4 : PyData.depthAll ((w.map PyData.int).take k) = 0 ∧ PyData.depthAll ((w.map PyData.int).drop k) = 0 := by rw [← t, depA_app] at a4; omega
  generalize (w.map PyData.int).take k = T at *
  generalize (w.map PyData.int).drop k = D at *
  unfold st wD
  generalize w.map PyData.int = W at *
  intro v hv
  simp only [List.mem_cons, List.not_mem_nil, or_false] at hv
  rcases hv with rfl | rfl | rfl | rfl | rfl | rfl | rfl | rfl | rfl | rfl | rfl | rfl | rfl | rfl | rfl | rfl <;>
    exact ⟨by first | assumption | simp [a1, o1, t1.1, t1.2, k1, k2], by first | assumption | simp [a2, o2, t2.1, t2.2], by first | omega | (simp; done) | (simp; omega), by first | omega | (simp [t4.1, t4.2, a4]; done) | (simp [t4.1, t4.2, a4]; omega)⟩

theorem b2_step (s : Src) (lap : Int) (h0 : 0 ≤ lap) (h6 : lap < 6) (a0 a3 a4 a5 a6 a7 a8 a9 a10 a11 a12 a13 a14 a15 a16 : Option PyData) : ∃ s' c3 c4 c5 c6 c7 c8 c9 c10 c11 c12 c13 c14 c15 c16, b2_law [a0, some (srcDt s), some (.int lap), a3, a4, a5, a6, a7, a8, a9, a10, a11, a12, a13, a14, a15, a16] =
    some (.nx [a0, some (srcDt s'), some (.int lap), c3, c4, c5, c6, c7, c8, c9, c10, c11, c12, c13, c14, c15, c16]) := by
  obtain ⟨m, hm, hm0, hm1⟩ : ∃ m : Int, atI [PyData.int 2, .int 4, .int 6, .int 8, .int 8, .int 8] lap = some (.int m) ∧ 0 ≤ m ∧ m ≤ 50 := by
    have : lap = 0 ∨ lap = 1 ∨ lap = 2 ∨ lap = 3 ∨ lap = 4 ∨ lap = 5 := by omega
    rcases this with rfl | rfl | rfl | rfl | rfl | rfl <;> exact ⟨_, rfl, by decide, by decide⟩
  obtain ⟨b, w, s1, hb, hL, hl, e1⟩ := state_l s m hm0 hm1
  have e2 := built_p b w (by omega)
  have e3 := net_l b w (by omega)
  have e4 := signed_p b w hb (by omega)
  have nf := net_fine b w hb (by omega)
  have nr : reprOk (netD b w) = true := nf.repr (by decide) (by decide)
  obtain ⟨odd, s2, ho, e5⟩ := of_ex s1 (ds := [PyData.none, .bool true, .int 0, .int 3, .int (-3), .str "1", .tuple [], .tuple [.int 1], .list [.int 1]]) (by simp) (by simp)
  have hodd := odd_fine ho
  obtain ⟨k, s3, e6, k0, k1⟩ := pick_ex s2 ((w.length : Int) + 1) (by omega)
  have vf := values_fine (k := k.toNat) hb hL (by omega) hodd
  have sf := vf (st b w) (by simp)
  have sr : reprOk (st b w) = true := sf.repr (by decide) (by decide)
  have g0 : reprOk (.bool true) = true := rfl
  have hz : w.length + 1 + 1 ≤ sizeLine := by rw [sizeLine_eq]; omega
  have c0 := c0_eq w hL (by omega)
  have cc := cn_count w (2 - b)
  have rl := rdS_len w (2 - b)
  have nsh : SeqAt.shaped (.tuple [.int 0, .int (cn (2 - b) w - 1)]) = true := by simp
  have nsame := neD_same nsh
  have L0 : ∀ (b6 b7 b8 b9 b10 b13 b16 x5 x15 b3 : Option PyData), ∃ y5 y15, loopB (gNm 5) b0_law [.int 1, .int (-1), .int 2, .int (-2)] [a0, some (srcDt s1), some (.int lap), b3, some (.int (cn (2 - b) w)), x5, b6, b7, b8, b9, b10, some (.int b), some (wD w), b13, some (netD b w), x15, b16] =
      some (.nx [a0, some (srcDt s1), some (.int lap), b3, some (.int (cn (2 - b) w)), y5, b6, b7, b8, b9, b10, some (.int b), some (wD w), b13, some (netD b w), y15, b16]) := by
    intro b6 b7 b8 b9 b10 b13 b16 x5 x15 b3
    exact ⟨_, _, (loopB_nx rfl (b0_step b w 1 hb hL (by omega) ..)).trans ((loopB_nx rfl (b0_step b w (-1) hb hL (by omega) ..)).trans ((loopB_nx rfl (b0_step b w 2 hb hL (by omega) ..)).trans ((loopB_nx rfl (b0_step b w (-2) hb hL (by omega) ..)).trans rfl)))⟩
  have L1 : ∀ (vs : List PyData), (∀ v ∈ vs, Fine v 100000 60) → ∀ (b3 b4 b5 b6 b7 b8 b9 x10 b11 b12 b13 b14 b15 x16 : Option PyData), ∃ y10 y16, loopB (gNm 10) b1_law vs [a0, some (srcDt s3), some (.int lap), b3, b4, b5, b6, b7, b8, b9, x10, b11, b12, b13, b14, b15, x16] =
      some (.nx [a0, some (srcDt s3), some (.int lap), b3, b4, b5, b6, b7, b8, b9, y10, b11, b12, b13, b14, b15, y16]) := by
    intro vs
    induction vs with
    | nil => intro _ b3 b4 b5 b6 b7 b8 b9 x10 b11 b12 b13 b14 b15 x16; exact ⟨_, _, rfl⟩
    | cons v vs ih =>
      intro hv b3 b4 b5 b6 b7 b8 b9 x10 b11 b12 b13 b14 b15 x16
      obtain ⟨y10, y16, h⟩ := ih (fun u hu => hv u (by simp [hu])) b3 b4 b5 b6 b7 b8 b9 (some v) b11 b12 b13 b14 b15 (some (.str v.shown))
      exact ⟨y10, y16, (loopB_nx rfl (b1_step (hv v (by simp)) ..)).trans h⟩
  obtain ⟨y5, y15, L0⟩ := L0 a6 a7 a8 a9 a10 (some (.str (st b w).shown)) a16 a5 a15 (some (st b w))
  obtain ⟨y10, y16, L1⟩ := L1 _ vf (some (st b w)) (some (.int (cn (2 - b) w))) y5 (some odd) (some (.int k)) (some (.tuple ((w.map .int).take k.toNat ++ [odd] ++ (w.map .int).drop k.toNat)))
    (some (.list [st b w, .tuple [.int b, .tuple ((w.map .int).take k.toNat ++ [odd] ++ (w.map .int).drop k.toNat)], .tuple [odd, wD w], .tuple [.int (1 - b), wD w], .list [.int b, wD w], .tuple [.int b, wD w, .int 0], .tuple [wD w, .int b], wD w])) a10 (some (.int b)) (some (wD w)) (some (.str (st b w).shown)) (some (netD b w)) y15 a16
  refine ⟨s3, some (st b w), some (.int (cn (2 - b) w)), y5, some odd, some (.int k), some (.tuple ((w.map .int).take k.toNat ++ [odd] ++ (w.map .int).drop k.toNat)), some (.list [st b w, .tuple [.int b, .tuple ((w.map .int).take k.toNat ++ [odd] ++ (w.map .int).drop k.toNat)], .tuple [odd, wD w], .tuple [.int (1 - b), wD w], .list [.int b, wD w], .tuple [.int b, wD w, .int 0], .tuple [wD w, .int b], wD w]), y10, some (.int b), some (wD w), some (.str (st b w).shown), some (netD b w), y15, y16, ?_⟩
  unfold b2_law
  refine (seq_nx (e1 := [a0, some (srcDt s1), some (.int lap), some (st b w), a4, a5, a6, a7, a8, a9, a10, a11, a12, a13, a14, a15, a16]) ?_).trans ?_
  · simp [hm, e1, of_is, pick_is]
  refine (seq_nx (e1 := [a0, some (srcDt s1), some (.int lap), some (st b w), a4, a5, a6, a7, a8, a9, a10, some (.int b), some (wD w), a13, a14, a15, a16]) ?_).trans ?_
  · simp [st]
  refine (seq_nx (e1 := [a0, some (srcDt s1), some (.int lap), some (st b w), a4, a5, a6, a7, a8, a9, a10, some (.int b), some (wD w), some (.str (st b w).shown), some (netD b w), a15, a16]) ?_).trans ?_
  · simp [sr, e2]
  refine (seq_nx (e1 := [a0, some (srcDt s1), some (.int lap), some (st b w), a4, a5, a6, a7, a8, a9, a10, some (.int b), some (wD w), some (.str (st b w).shown), some (netD b w), a15, a16]) ?_).trans ?_
  · simp [nr, e3, e4]
  refine (seq_nx (e1 := [a0, some (srcDt s1), some (.int lap), some (st b w), some (.int (cn (2 - b) w)), a5, a6, a7, a8, a9, a10, some (.int b), some (wD w), some (.str (st b w).shown), some (netD b w), a15, a16]) ?_).trans ?_
  · simp [c0, cc]
  refine (seq_nx (e1 := [a0, some (srcDt s1), some (.int lap), some (st b w), some (.int (cn (2 - b) w)), a5, a6, a7, a8, a9, a10, some (.int b), some (wD w), some (.str (st b w).shown), some (netD b w), a15, a16]) ?_).trans ?_
  · simp [netD, atI_zero, atI_one, atI_three, rl, nsame, wD]
  refine (seq_nx (e1 := [a0, some (srcDt s1), some (.int lap), some (st b w), some (.int (cn (2 - b) w)), y5, a6, a7, a8, a9, a10, some (.int b), some (wD w), some (.str (st b w).shown), some (netD b w), y15, a16]) ?_).trans ?_
  · simp [L0]
  refine (seq_nx (e1 := [a0, some (srcDt s2), some (.int lap), some (st b w), some (.int (cn (2 - b) w)), y5, some odd, a7, a8, a9, a10, some (.int b), some (wD w), some (.str (st b w).shown), some (netD b w), y15, a16]) ?_).trans ?_
  · simp [of_is, e5]
  refine (seq_nx (e1 := [a0, some (srcDt s3), some (.int lap), some (st b w), some (.int (cn (2 - b) w)), y5, some odd, some (.int k), a8, a9, a10, some (.int b), some (wD w), some (.str (st b w).shown), some (netD b w), y15, a16]) ?_).trans ?_
  · simp [pick_is, e6, wD]
  refine (seq_nx (e1 := [a0, some (srcDt s3), some (.int lap), some (st b w), some (.int (cn (2 - b) w)), y5, some odd, some (.int k), some (.tuple ((w.map .int).take k.toNat ++ [odd] ++ (w.map .int).drop k.toNat)), a9, a10, some (.int b), some (wD w), some (.str (st b w).shown), some (netD b w), y15, a16]) ?_).trans ?_
  · have q1 : min k.toNat w.length + 1 ≤ sizeLine := by rw [sizeLine_eq]; omega
    have q2 : min k.toNat w.length + 1 + (w.length - k.toNat) ≤ sizeLine := by rw [sizeLine_eq]; omega
    simp only [wD]
    simp [cutD_from k0, cutD_to k0, q1, q2]
  refine (seq_nx (e1 := [a0, some (srcDt s3), some (.int lap), some (st b w), some (.int (cn (2 - b) w)), y5, some odd, some (.int k), some (.tuple ((w.map .int).take k.toNat ++ [odd] ++ (w.map .int).drop k.toNat)), some (.list [st b w, .tuple [.int b, .tuple ((w.map .int).take k.toNat ++ [odd] ++ (w.map .int).drop k.toNat)], .tuple [odd, wD w], .tuple [.int (1 - b), wD w], .list [.int b, wD w], .tuple [.int b, wD w, .int 0], .tuple [wD w, .int b], wD w]), a10, some (.int b), some (wD w), some (.str (st b w).shown), some (netD b w), y15, a16]) ?_).trans ?_
  · have q3 : 3 ≤ sizeLine := by rw [sizeLine_eq]; decide
    simp [st, wD, q3]
  refine (seq_nx (e1 := [a0, some (srcDt s3), some (.int lap), some (st b w), some (.int (cn (2 - b) w)), y5, some odd, some (.int k), some (.tuple ((w.map .int).take k.toNat ++ [odd] ++ (w.map .int).drop k.toNat)), some (.list [st b w, .tuple [.int b, .tuple ((w.map .int).take k.toNat ++ [odd] ++ (w.map .int).drop k.toNat)], .tuple [odd, wD w], .tuple [.int (1 - b), wD w], .list [.int b, wD w], .tuple [.int b, wD w, .int 0], .tuple [wD w, .int b], wD w]), y10, some (.int b), some (wD w), some (.str (st b w).shown), some (netD b w), y15, y16]) ?_).trans ?_
  · have q16 : 16 ≤ sizeLine := by rw [sizeLine_eq]; decide
    simp [st, wD] at L1
    simp [st, wD, q16]
    exact L1
  simp [sr]

theorem yes : Yes 63 m_law := by
  intro ns hn
  have e0 := source_spec ns hn
  obtain ⟨e', h1, s', x3, x4, x5, x6, x7, x8, x9, x10, x11, x12, x13, x14, x15, x16, x2, rfl⟩ := loopB_ix (g := gNm 2) (body := b2_law) (ds := rngL 0 6) (e := [some (.list (ns.map PyData.int)), some (srcDt (srcS ns)), none, none, none, none, none, none, none, none, none, none, none, none, none, none, none])
    (fun _ e => ∃ s x3 x4 x5 x6 x7 x8 x9 x10 x11 x12 x13 x14 x15 x16 x2, e = [some (.list (ns.map PyData.int)), some (srcDt s), x2, x3, x4, x5, x6, x7, x8, x9, x10, x11, x12, x13, x14, x15, x16]) ⟨_, _, _, _, _, _, _, _, _, _, _, _, _, _, _, _, rfl⟩ fun k d hk e he => by
      obtain ⟨s, x3, x4, x5, x6, x7, x8, x9, x10, x11, x12, x13, x14, x15, x16, x2, rfl⟩ := he
      have hd := rngL_get hk
      subst hd
      have hk' : k < 6 := by have := (List.getElem?_eq_some_iff.mp hk).1; simpa using this
      obtain ⟨s', y3, y4, y5, y6, y7, y8, y9, y10, y11, y12, y13, y14, y15, y16, h⟩ := b2_step s (0 + (k : Int)) (by omega) (by omega) (some (.list (ns.map PyData.int))) x3 x4 x5 x6 x7 x8 x9 x10 x11 x12 x13 x14 x15 x16
      exact ⟨_, _, rfl, .inl h, _, _, _, _, _, _, _, _, _, _, _, _, _, _, _, _, rfl⟩
  have hr : rg1 [.int 6] = some (rngL 0 6) := rfl
  have hb := built_p 0 [1, 1, 2] (by decide)
  have hn2 : netD 0 [1, 1, 2] = .tuple [.int 3, .tuple [.tuple [.int 0, .int 1], .tuple [.int 0, .int 1], .tuple [.int 1, .int 2]], .tuple [.int 1, .int 1, .int 1], .tuple [.int 0, .int 2]] := rfl
  rw [hn2] at hb
  have hst : st 0 [1, 1, 2] = .tuple [.int 0, .tuple [.int 1, .int 1, .int 2]] := rfl
  rw [hst] at hb
  simp [m_law, mDef, finB, outsOf, source_is, e0, immK, hr, h1, hb, eqD_t]
end K43

open PySem PySem.W PyProof.Rows
set_option maxHeartbeats 0 in
theorem PySem.Challenge.cw_lacednets_k43_whole_words_and_built_nets_holds : PySem.Challenge.rw_lacednets_k43_whole_words_and_built_nets.Holds := by
  w_on; o_law; k_head; (case hw => w_witness2)
  k_fill
  refine DL.walkG (l := PySem.Challenge.rw_lacednets_k43_whole_words_and_built_nets) (n := 63) (k := 4) (mf := K43.m_law) rfl (by decide) rfl ⟨rfl, by decide, by decide⟩ (fun w h Y => PySem.W.kIn_of Y) ?F K43.yes
  case F =>
    intro w mg h KX G base _ _
    refine' K43.all_mk KX G ?a0 ?l0 ?c0 ?k0 ?a1 ?l1 ?c1 ?k1 ?a2 ?l2 ?c2 ?k2 ?a3 ?l3 ?c3 ?k3 ?a4 ?l4 ?c4 ?k4 ?a5 ?l5 ?c5 ?k5 ?a6 ?l6 ?c6 ?k6 ?a7 ?l7 ?c7 ?k7 ?a8 ?l8 ?c8 ?k8 ?a9 ?l9 ?c9 ?k9 ?a10 ?l10 ?c10 ?k10 ?a11 ?l11 ?c11 ?k11 ?a12 ?l12 ?c12 ?k12 ?a13 ?l13 ?c13 ?k13 ?a14 ?l14 ?c14 ?k14 ?a15 ?l15 ?c15 ?k15 ?w_abs ?w_all ?w_bool ?w_int ?w_isinstance ?w_len ?w_list ?w_max ?w_range ?w_repr ?w_tuple
    (case a0 => k_is); (case l0 => k_is); (case c0 => k_is); (case k0 => k_is); (case a1 => k_is); (case l1 => k_is); (case c1 => k_is); (case k1 => k_is)
    (case a2 => k_is); (case l2 => k_is); (case c2 => k_is); (case k2 => k_is); (case a3 => k_is); (case l3 => k_is); (case c3 => k_is); (case k3 => k_is)
    (case a4 => k_is); (case l4 => k_is); (case c4 => k_is); (case k4 => k_is); (case a5 => k_is); (case l5 => k_is); (case c5 => k_is); (case k5 => k_is)
    (case a6 => k_is); (case l6 => k_is); (case c6 => k_is); (case k6 => k_is); (case a7 => k_is); (case l7 => k_is); (case c7 => k_is); (case k7 => k_is)
    (case a8 => k_is); (case l8 => k_is); (case c8 => k_is); (case k8 => k_is); (case a9 => k_is); (case l9 => k_is); (case c9 => k_is); (case k9 => k_is)
    (case a10 => k_is); (case l10 => k_is); (case c10 => k_is); (case k10 => k_is); (case a11 => k_is); (case l11 => k_is); (case c11 => k_is); (case k11 => k_is)
    (case a12 => k_is); (case l12 => k_is); (case c12 => k_is); (case k12 => k_is); (case a13 => k_is); (case l13 => k_is); (case c13 => k_is); (case k13 => k_is)
    (case a14 => k_is); (case l14 => k_is); (case c14 => k_is); (case k14 => k_is); (case a15 => k_is); (case l15 => k_is); (case c15 => k_is); (case k15 => k_is)
    (case w_abs => k_is); (case w_all => k_is); (case w_bool => k_is); (case w_int => k_is); (case w_isinstance => k_is); (case w_len => k_is); (case w_list => k_is); (case w_max => k_is)
    (case w_range => k_is); (case w_repr => k_is); (case w_tuple => k_is)
