import PyProof.Rows.All
import HandS.ForMost
import HandS.Walk
import HandS.Zip
import HandS.SortInts
import HandS.Deep
import KE.SortData
import HandS.ForExc
import KE.KTupSum
import HandS.IsInst
import HandS.TupAny
import HandS.Style
import HandS.Wide
import HandS.RaiseMore
import HandS.TupLen
import PyProof.Rows.InDataRows
import KE.GoesZip
import KE.GoesEnumKw
import KE.GoesMore
import KE.KStar
import HandS.Conv
import HandS.More
import HandS.TryOnly
import HandS.ExcOwn
import HandS.WordsExc
import KE.KIntText
import PySem.Challenge.RW_lacednets_k48_whole_states_of_fractions
set_option Elab.async false
set_option linter.all false
set_option maxRecDepth 100000
set_option maxHeartbeats 4000000
/-! DLA: data beside the heap. A value of the abstract heap that holds a datum (Rep), slots that own what they hold (OwnAt), the state of a def's names as data (EI), and what an expression, a test, a statement does to it (tD, tT, tS). -/
namespace DL
open PySem PySem.Spec PyProof.Rows L2

abbrev Ev := List (Option PyData)

def kD : L2.Key → PyData
  | .inl i => .int i
  | .inr x => .str x
def tpD (k : List L2.Key) : PyData := .tuple (k.map kD)

/-- a list that the top has written -/
def KLst (K : PySem.W.Frag) (a : Addr) (xs : List V) : Prop := ∃ (ob : Obj) (its : Array Value) (n : Nat), K.lookup a = some ob ∧ ob.cls = .type "list" ∧ ob.dict = none ∧ ob.data = .seq its n ∧ its.size ≤ sizeLine ∧ Vals xs its.toList
def LstAt (K : PySem.W.Frag) (H : Hp) (O : Addr → Prop) (a : Addr) (xs : List V) : Prop := (Rd H a (.lst xs) ∧ ¬ O a) ∨ KLst K a xs
theorem LstAt.sq {K : PySem.W.Frag} {H : Hp} {O : Addr → Prop} {a : Addr} {xs : List V} (h : LstAt K H O a xs) : SqL K H a xs := h.imp (·.1) id
theorem LstAt.rd {K : PySem.W.Frag} {H : Hp} {O : Addr → Prop} {a : Addr} {xs : List V} (h : Rd H a (.lst xs)) (n : ¬ O a) : LstAt K H O a xs := .inl ⟨h, n⟩

/-- a dict's keys and values -/
def DctAt (H : Hp) (a : Addr) (ks : List PyData) (xs : List V) : Prop :=
  (∃ l : List (L2.Key × V), Rd H a (.dK l) ∧ ks = l.map (fun p => kD p.1) ∧ xs = l.map (·.2)) ∨
  (∃ l : List (List L2.Key × V), Rd H a (.dT l) ∧ ks = l.map (fun p => tpD p.1) ∧ xs = l.map (·.2))

/-- data of tuples that the top has written (and that are read) -/
def kt (_ : PyData) : Bool := false
def TpAt (K : PySem.W.Frag) (H : Hp) (a : Addr) (ds : List PyData) (xs : List V) : Prop := H a = some (.tup xs) ∨ (SqT K H a xs ∧ kt (.tuple ds) = true)
theorem TpAt.sq {K : PySem.W.Frag} {H : Hp} {a : Addr} {ds : List PyData} {xs : List V} (h : TpAt K H a ds xs) : SqT K H a xs := h.elim (fun h => .inl (.inl h)) (·.1)
theorem TpAt.of {K : PySem.W.Frag} {H : Hp} {a : Addr} {ds : List PyData} {xs : List V} (h : H a = some (.tup xs)) : TpAt K H a ds xs := .inl h
mutual
def Rep (K : PySem.W.Frag) (H : Hp) (O : Addr → Prop) : PyData → V → Prop
  | .none, v => v = .non
  | .bool b, v => v = .bl b
  | .int i, v => v = .int i
  | .str x, v => v = .str x
  | .list ds, v => ∃ a xs, v = .ref a ∧ LstAt K H O a xs ∧ RepA K H O ds xs
  | .tuple ds, v => ∃ a xs, v = .ref a ∧ TpAt K H a ds xs ∧ RepA K H O ds xs
  | .dict kvs, v => ∃ a xs, v = .ref a ∧ ¬ O a ∧ DctAt H a (kvs.map (·.1)) xs ∧ RepV K H O kvs xs
def RepA (K : PySem.W.Frag) (H : Hp) (O : Addr → Prop) : List PyData → List V → Prop
  | [], xs => xs = []
  | d :: ds, xs => ∃ x r, xs = x :: r ∧ Rep K H O d x ∧ RepA K H O ds r
def RepV (K : PySem.W.Frag) (H : Hp) (O : Addr → Prop) : List (PyData × PyData) → List V → Prop
  | [], xs => xs = []
  | (_, d) :: ds, xs => ∃ x r, xs = x :: r ∧ Rep K H O d x ∧ RepV K H O ds r
end

section
variable {K : PySem.W.Frag} {H H' : Hp} {O O' : Addr → Prop}
theorem RepV_iff : ∀ {kvs : List (PyData × PyData)} {xs : List V}, RepV K H O kvs xs ↔ RepA K H O (kvs.map (·.2)) xs
  | [], xs => by simp only [RepV, List.map_nil, RepA]
  | (k, d) :: r, xs => by
    simp only [RepV, List.map_cons, RepA]
    constructor
    · rintro ⟨x, t, e, h1, h2⟩; exact ⟨x, t, e, h1, RepV_iff.mp h2⟩
    · rintro ⟨x, t, e, h1, h2⟩; exact ⟨x, t, e, h1, RepV_iff.mpr h2⟩
theorem RepA.length : ∀ {ds : List PyData} {xs : List V}, RepA K H O ds xs → ds.length = xs.length
  | [], xs, h => by simp only [RepA] at h; subst h; rfl
  | d :: ds, xs, h => by
    simp only [RepA] at h
    obtain ⟨x, r, rfl, _, h2⟩ := h
    simp only [List.length_cons, h2.length]
theorem RepA.get : ∀ {ds : List PyData} {xs : List V} {i : Nat} {d : PyData}, RepA K H O ds xs → ds[i]? = some d → ∃ x, xs[i]? = some x ∧ Rep K H O d x
  | [], _, _, _, _, e => by simp at e
  | d :: ds, xs, 0, d', h, e => by
    simp only [RepA] at h
    obtain ⟨x, r, rfl, h1, _⟩ := h
    simp at e; subst e
    exact ⟨x, rfl, h1⟩
  | d :: ds, xs, i + 1, d', h, e => by
    simp only [RepA] at h
    obtain ⟨x, r, rfl, _, h2⟩ := h
    obtain ⟨y, e1, e2⟩ := RepA.get (i := i) h2 (by simpa using e)
    exact ⟨y, by simpa using e1, e2⟩
theorem RepA.getX {ds : List PyData} {xs : List V} {i : Nat} {x : V} (h : RepA K H O ds xs) (e : xs[i]? = some x) : ∃ d, ds[i]? = some d ∧ Rep K H O d x := by
  have hl := h.length
  have hi : i < xs.length := (List.getElem?_eq_some_iff.mp e).1
  have hi' : i < ds.length := by omega
  obtain ⟨y, e1, e2⟩ := h.get (List.getElem?_eq_getElem hi')
  rw [e] at e1; cases e1
  exact ⟨_, List.getElem?_eq_getElem hi', e2⟩
theorem RepA.cons {d : PyData} {ds : List PyData} {x : V} {xs : List V} (h1 : Rep K H O d x) (h2 : RepA K H O ds xs) : RepA K H O (d :: ds) (x :: xs) := by
  simp only [RepA]; exact ⟨x, xs, rfl, h1, h2⟩
theorem RepA.nil : RepA K H O [] [] := by simp only [RepA]
theorem RepA.mk : ∀ {ds : List PyData} {xs : List V}, ds.length = xs.length → (∀ (i : Nat) d x, ds[i]? = some d → xs[i]? = some x → Rep K H O d x) → RepA K H O ds xs
  | [], [], _, _ => .nil
  | [], _ :: _, h, _ => by simp at h
  | _ :: _, [], h, _ => by simp at h
  | d :: ds, x :: xs, h, f => .cons (f 0 d x rfl rfl) (RepA.mk (by simpa using h) fun i d x e1 e2 => f (i + 1) d x (by simpa using e1) (by simpa using e2))
theorem RepA.append : ∀ {ds es : List PyData} {xs ys : List V}, RepA K H O ds xs → RepA K H O es ys → RepA K H O (ds ++ es) (xs ++ ys)
  | [], _, _, _, h1, h2 => by simp only [RepA] at h1; subst h1; exact h2
  | d :: ds, _, _, _, h1, h2 => by
    simp only [RepA] at h1
    obtain ⟨x, r, rfl, a, b⟩ := h1
    exact .cons a (b.append h2)
theorem RepA.pick {ds ds' : List PyData} {xs xs' : List V} (h : RepA K H O ds xs) (hl : ds'.length = xs'.length) (f : ∀ (i : Nat), i < ds'.length → ∃ j : Nat, ds'[i]? = ds[j]? ∧ xs'[i]? = xs[j]?) : RepA K H O ds' xs' := by
  refine .mk hl fun i d x e1 e2 => ?_
  have hi : i < ds'.length := (List.getElem?_eq_some_iff.mp e1).1
  obtain ⟨j, f1, f2⟩ := f i hi
  rw [e1] at f1; rw [e2] at f2
  obtain ⟨y, g1, g2⟩ := h.get f1.symm
  rw [g1] at f2; cases f2
  exact g2
theorem RepA.take {ds : List PyData} {xs : List V} (n : Nat) (h : RepA K H O ds xs) : RepA K H O (ds.take n) (xs.take n) := by
  have hl := h.length
  refine h.pick (by simp [hl]) fun i hi => ⟨i, ?_, ?_⟩
  · have : i < n := by simp at hi; omega
    simp [List.getElem?_take, this]
  · have : i < n := by simp at hi; omega
    simp [List.getElem?_take, this]
theorem RepA.drop {ds : List PyData} {xs : List V} (n : Nat) (h : RepA K H O ds xs) : RepA K H O (ds.drop n) (xs.drop n) := by
  have hl := h.length
  exact h.pick (by simp [hl]) fun i hi => ⟨n + i, by simp, by simp⟩
theorem RepA.reverse {ds : List PyData} {xs : List V} (h : RepA K H O ds xs) : RepA K H O ds.reverse xs.reverse := by
  have hl := h.length
  refine h.pick (by simp [hl]) fun i hi => ⟨ds.length - 1 - i, ?_, ?_⟩
  · rw [List.getElem?_reverse (by simpa using hi)]
  · rw [List.getElem?_reverse (by simp at hi; omega), hl]
theorem RepA.set {ds : List PyData} {xs : List V} {d : PyData} {x : V} (n : Nat) (h : RepA K H O ds xs) (r : Rep K H O d x) : RepA K H O (ds.set n d) (xs.set n x) := by
  have hl := h.length
  refine .mk (by simp [hl]) fun i d' x' e1 e2 => ?_
  rw [List.getElem?_set] at e1 e2
  by_cases hn : n = i
  · subst hn
    simp only [if_pos] at e1 e2
    split at e1 <;> split at e2 <;> first | (cases e1; cases e2; exact r) | (exfalso; omega) | simp at e1 | simp at e2
  · simp only [hn, if_false] at e1 e2
    obtain ⟨y, g1, g2⟩ := h.get e1
    rw [g1] at e2; cases e2
    exact g2
end

/-! ### what is owned -/
inductive Kd where
  /-- what is held is never changed -/
  | frz
  /-- a list of one's own (its items are not) -/
  | l1
  /-- a list of one's own of such -/
  | l2
  /-- a dict of one's own, its keys ints and texts; tuples of such -/
  | dk | dt
  /-- the law's source -/
  | src
  deriving DecidableEq

def OO (G : Addr → Prop) (F : List (List Addr)) (a : Addr) : Prop := G a ∨ a ∈ F.flatten

/-- the source's datum -/
def srcD (cells : List Int) (left mixed turn : Int) : PyData :=
  .dict [(.str "cells", .list (cells.map .int)), (.str "left", .int left), (.str "mixed", .int mixed), (.str "turn", .int turn)]

def OwnAt (K : PySem.W.Frag) (H : Hp) (O : Addr → Prop) : Kd → List Addr → PyData → V → Prop
  | .frz, F, d, v => F = [] ∧ Rep K H O d v
  | .l1, F, d, v => ∃ a xs ds, F = [a] ∧ d = .list ds ∧ v = .ref a ∧ H a = some (.lst xs) ∧ RepA K H O ds xs
  | .l2, F, d, v => ∃ a bs dss, F = a :: bs ∧ d = .list (List.map PyData.list dss) ∧ v = .ref a ∧ H a = some (.lst (bs.map V.ref)) ∧ bs.length = dss.length ∧
      ∀ (i : Nat) b ds, bs[i]? = some b → dss[i]? = some ds → ∃ xs, H b = some (.lst xs) ∧ RepA K H O ds xs
  | .dk, F, d, v => ∃ a kvs l, F = [a] ∧ d = .dict kvs ∧ v = .ref a ∧ H a = some (.dK l) ∧ kvs.map (·.1) = l.map (fun p => kD p.1) ∧ RepV K H O kvs (l.map (·.2))
  | .dt, F, d, v => ∃ a kvs l, F = [a] ∧ d = .dict kvs ∧ v = .ref a ∧ H a = some (.dT l) ∧ kvs.map (·.1) = l.map (fun p => tpD p.1) ∧ RepV K H O kvs (l.map (·.2))
  | .src, F, d, v => ∃ a c cells left mixed turn, F = [a, c] ∧ d = srcD cells left mixed turn ∧ v = .ref a ∧
      H a = some (.dK [(Sum.inr "cells", .ref c), (Sum.inr "left", .int left), (Sum.inr "mixed", .int mixed), (Sum.inr "turn", .int turn)]) ∧ H c = some (.lst (cells.map V.int))

/-- no address in two of them, nor twice in one -/
structure Dis (F : List (List Addr)) : Prop where
  own : ∀ (i : Nat) Fi, F[i]? = some Fi → Fi.Nodup
  apart : ∀ (i j : Nat) Fi Fj a, F[i]? = some Fi → F[j]? = some Fj → a ∈ Fi → a ∈ Fj → i = j
theorem mem_flat {F : List (List Addr)} {a : Addr} : a ∈ F.flatten ↔ ∃ (i : Nat) (Fi : List Addr), F[i]? = some Fi ∧ a ∈ Fi := by
  rw [List.mem_flatten]
  constructor
  · rintro ⟨l, h1, h2⟩
    obtain ⟨i, hi⟩ := List.mem_iff_getElem?.mp h1
    exact ⟨i, l, hi, h2⟩
  · rintro ⟨i, l, h1, h2⟩
    exact ⟨l, List.mem_of_getElem? h1, h2⟩
theorem Dis.set {F : List (List Addr)} {i : Nat} {Fi : List Addr} (D : Dis F) (hn : Fi.Nodup) (h : ∀ a ∈ Fi, ∀ (j : Nat) Fj, j ≠ i → F[j]? = some Fj → a ∉ Fj) : Dis (F.set i Fi) where
  own := fun j Fj e => by
    rw [List.getElem?_set] at e
    by_cases hj : i = j
    · subst hj
      simp only [if_pos] at e
      split at e
      · cases e; exact hn
      · cases e
    · rw [if_neg hj] at e
      exact D.own j Fj e
  apart := fun j l Fj Fl a e1 e2 m1 m2 => by
    rw [List.getElem?_set] at e1 e2
    by_cases hj : i = j
    · by_cases hl : i = l
      · exact hj.symm.trans hl
      · rw [if_neg hl] at e2
        subst hj
        simp only [if_pos] at e1
        split at e1
        · cases e1; exact absurd m2 (h a m1 l Fl (Ne.symm hl) e2)
        · cases e1
    · by_cases hl : i = l
      · rw [if_neg hj] at e1
        subst hl
        simp only [if_pos] at e2
        split at e2
        · cases e2; exact absurd m1 (h a m2 j Fj (Ne.symm hj) e1)
        · cases e2
      · rw [if_neg hj] at e1
        rw [if_neg hl] at e2
        exact D.apart j l Fj Fl a e1 e2 m1 m2
theorem mem_set {F : List (List Addr)} {i : Nat} {Fi : List Addr} {a : Addr} (h : a ∈ (F.set i Fi).flatten) : a ∈ Fi ∨ ∃ (j : Nat) (Fj : List Addr), j ≠ i ∧ F[j]? = some Fj ∧ a ∈ Fj := by
  obtain ⟨j, Fj, e, m⟩ := mem_flat.mp h
  rw [List.getElem?_set] at e
  by_cases hj : i = j
  · subst hj
    simp only [if_pos] at e
    split at e
    · cases e; exact .inl m
    · cases e
  · rw [if_neg hj] at e
    exact .inr ⟨j, Fj, Ne.symm hj, e, m⟩
structure EI (K : PySem.W.Frag) (ks : List Kd) (ps : List (Nat × V)) (G : Addr → Prop) (F : List (List Addr)) (σ : L2.St) (H : Hp) (env : Ev) : Prop where
  lF : F.length = ks.length
  lE : env.length = ks.length
  lS : σ.length = ks.length
  nd : Dis F
  tr : ∀ a ∈ F.flatten, H a ≠ none ∧ ¬ G a
  gt : ∀ a, G a → H a ≠ none
  sl : ∀ (i : Nat) d kd, env[i]? = some (some d) → ks[i]? = some kd → ∃ v Fi, σ[i]? = some (some v) ∧ F[i]? = some Fi ∧ OwnAt K H (OO G F) kd Fi d v
  pn : ∀ p ∈ ps, σ[p.1]? = some (some p.2)
  fz : ∀ (i : Nat), ks[i]? = some Kd.frz → F[i]? = some []

structure Stp (F : List (List Addr)) (H : Hp) (F' : List (List Addr)) (H' : Hp) : Prop where
  keep : ∀ a o, H a = some o → a ∉ F.flatten → H' a = some o
  dom : ∀ a, H a ≠ none → H' a ≠ none
  tup : ∀ a xs, H a = some (.tup xs) → H' a = some (.tup xs)
  frz : ∀ a o u, H a = some (.frz o u) → H' a = some (.frz o u)
  new : ∀ a ∈ F'.flatten, a ∈ F.flatten ∨ H a = none

theorem Stp.refl {F : List (List Addr)} {H : Hp} : Stp F H F H := ⟨fun _ _ e _ => e, fun _ e => e, fun _ _ e => e, fun _ _ _ e => e, fun _ h => .inl h⟩
theorem Stp.trans {F F1 F2 : List (List Addr)} {H H1 H2 : Hp} (a : Stp F H F1 H1) (b : Stp F1 H1 F2 H2) : Stp F H F2 H2 where
  keep := fun p o e n => b.keep p o (a.keep p o e n) fun m => by
    rcases a.new p m with q | q
    · exact n q
    · rw [q] at e; cases e
  dom := fun p e => b.dom p (a.dom p e)
  tup := fun p xs e => b.tup p xs (a.tup p xs e)
  frz := fun p o u e => b.frz p o u (a.frz p o u e)
  new := fun p m => by
    rcases b.new p m with q | q
    · exact a.new p q
    · refine .inr ?_
      cases e : H p with
      | none => rfl
      | some o => exact absurd q (a.dom p (by rw [e]; simp))
theorem Stp.same {F : List (List Addr)} {H H' : Hp} (s : Same H H') : Stp F H F H' :=
  ⟨fun a o e _ => s a o e, fun a e => by
    cases q : H a with
    | none => exact absurd q e
    | some o => rw [s a o q]; simp, fun a xs e => s a _ e, fun a o u e => s a _ e, fun _ h => .inl h⟩

/-- what a datum of a value leans on stays -/
structure Kp (O : Addr → Prop) (H : Hp) (O' : Addr → Prop) (H' : Hp) : Prop where
  keep : ∀ a o, H a = some o → ¬ O a → H' a = some o ∧ ¬ O' a
  tup : ∀ a xs, H a = some (.tup xs) → H' a = some (.tup xs)
  frz : ∀ a o u, H a = some (.frz o u) → H' a = some (.frz o u)
theorem Kp.refl {O : Addr → Prop} {H : Hp} : Kp O H O H := ⟨fun _ _ e n => ⟨e, n⟩, fun _ _ e => e, fun _ _ _ e => e⟩
theorem Kp.less {O O' : Addr → Prop} {H : Hp} (h : ∀ a, O' a → O a) : Kp O H O' H := ⟨fun _ _ e n => ⟨e, fun z => n (h _ z)⟩, fun _ _ e => e, fun _ _ _ e => e⟩
theorem Kp.trans {O O1 O2 : Addr → Prop} {H H1 H2 : Hp} (a : Kp O H O1 H1) (b : Kp O1 H1 O2 H2) : Kp O H O2 H2 :=
  ⟨fun p o e n => let ⟨q, m⟩ := a.keep p o e n; b.keep p o q m, fun p xs e => b.tup p xs (a.tup p xs e), fun p o u e => b.frz p o u (a.frz p o u e)⟩
theorem Stp.kp {G : Addr → Prop} {F F' : List (List Addr)} {H H' : Hp} (s : Stp F H F' H') : Kp (OO G F) H (OO G F') H' where
  keep := fun a o e n => ⟨s.keep a o e fun m => n (.inr m), fun z => by
    rcases z with z | z
    · exact n (.inl z)
    · rcases s.new a z with q | q
      · exact n (.inr q)
      · rw [q] at e; cases e⟩
  tup := s.tup
  frz := s.frz
theorem Same.kp {O : Addr → Prop} {H H' : Hp} (s : Same H H') : Kp O H O H' := ⟨fun a o e n => ⟨s a o e, n⟩, fun a _ e => s a _ e, fun a _ _ e => s a _ e⟩

section
variable {K : PySem.W.Frag} {H H' : Hp} {O O' : Addr → Prop}
theorem SqT.kp (k : Kp O H O' H') {a : Addr} {xs : List V} (h : SqT K H a xs) : SqT K H' a xs := by
  rcases h with (h | ⟨o, h⟩) | h
  · exact .inl (.inl (k.tup _ _ h))
  · exact .inl (.inr ⟨o, k.frz _ _ _ h⟩)
  · exact .inr h
theorem LstAt.kp (k : Kp O H O' H') {a : Addr} {xs : List V} (h : LstAt K H O a xs) : LstAt K H' O' a xs := by
  rcases h with ⟨h | ⟨o, h⟩, n⟩ | h
  · obtain ⟨e, m⟩ := k.keep _ _ h n
    exact .rd (.inl e) m
  · obtain ⟨e, m⟩ := k.keep _ _ h n
    exact .rd (.inr ⟨o, e⟩) m
  · exact .inr h
theorem DctAt.kp (k : Kp O H O' H') {a : Addr} {ds : List PyData} {xs : List V} (n : ¬ O a) (h : DctAt H a ds xs) : ¬ O' a ∧ DctAt H' a ds xs := by
  rcases h with ⟨l, h | ⟨o, h⟩, e⟩ | ⟨l, h | ⟨o, h⟩, e⟩
  · obtain ⟨e1, m⟩ := k.keep _ _ h n
    exact ⟨m, .inl ⟨l, .inl e1, e⟩⟩
  · obtain ⟨e1, m⟩ := k.keep _ _ h n
    exact ⟨m, .inl ⟨l, .inr ⟨o, e1⟩, e⟩⟩
  · obtain ⟨e1, m⟩ := k.keep _ _ h n
    exact ⟨m, .inr ⟨l, .inl e1, e⟩⟩
  · obtain ⟨e1, m⟩ := k.keep _ _ h n
    exact ⟨m, .inr ⟨l, .inr ⟨o, e1⟩, e⟩⟩
mutual
theorem Rep.kp (k : Kp O H O' H') : ∀ {d : PyData} {v : V}, Rep K H O d v → Rep K H' O' d v
  | .none, v, h => by simp only [Rep] at h ⊢; exact h
  | .bool b, v, h => by simp only [Rep] at h ⊢; exact h
  | .int i, v, h => by simp only [Rep] at h ⊢; exact h
  | .str x, v, h => by simp only [Rep] at h ⊢; exact h
  | .list ds, v, h => by
    simp only [Rep] at h ⊢
    obtain ⟨a, xs, e, h1, h2⟩ := h
    exact ⟨a, xs, e, h1.kp k, RepA.kp k h2⟩
  | .tuple ds, v, h => by
    simp only [Rep] at h ⊢
    obtain ⟨a, xs, e, h1, h2⟩ := h
    exact ⟨a, xs, e, h1.elim (fun h => .inl (k.tup _ _ h)) fun h => .inr ⟨SqT.kp k h.1, h.2⟩, RepA.kp k h2⟩
  | .dict kvs, v, h => by
    simp only [Rep] at h ⊢
    obtain ⟨a, xs, e, n, h1, h2⟩ := h
    obtain ⟨m, h1⟩ := h1.kp k n
    exact ⟨a, xs, e, m, h1, RepV.kp k h2⟩
theorem RepA.kp (k : Kp O H O' H') : ∀ {ds : List PyData} {xs : List V}, RepA K H O ds xs → RepA K H' O' ds xs
  | [], xs, h => by simp only [RepA] at h ⊢; exact h
  | d :: ds, xs, h => by
    simp only [RepA] at h ⊢
    obtain ⟨x, r, e, h1, h2⟩ := h
    exact ⟨x, r, e, Rep.kp k h1, RepA.kp k h2⟩
theorem RepV.kp (k : Kp O H O' H') : ∀ {ds : List (PyData × PyData)} {xs : List V}, RepV K H O ds xs → RepV K H' O' ds xs
  | [], xs, h => by simp only [RepV] at h ⊢; exact h
  | (_, d) :: ds, xs, h => by
    simp only [RepV] at h ⊢
    obtain ⟨x, r, e, h1, h2⟩ := h
    exact ⟨x, r, e, Rep.kp k h1, RepV.kp k h2⟩
end
theorem OwnAt.kp (k : Kp O H O' H') {kd : Kd} {F : List Addr} {d : PyData} {v : V} (hF : ∀ a ∈ F, ∀ o, H a = some o → H' a = some o) (h : OwnAt K H O kd F d v) : OwnAt K H' O' kd F d v := by
  cases kd with
  | frz => exact ⟨h.1, h.2.kp k⟩
  | l1 =>
    obtain ⟨a, xs, ds, rfl, e1, e2, e3, r⟩ := h
    exact ⟨a, xs, ds, rfl, e1, e2, hF a (by simp) _ e3, r.kp k⟩
  | l2 =>
    obtain ⟨a, bs, dss, rfl, e1, e2, e3, el, r⟩ := h
    refine ⟨a, bs, dss, rfl, e1, e2, hF a (by simp) _ e3, el, fun i b ds g1 g2 => ?_⟩
    obtain ⟨xs, q1, q2⟩ := r i b ds g1 g2
    exact ⟨xs, hF b (List.mem_cons_of_mem _ (List.mem_of_getElem? g1)) _ q1, q2.kp k⟩
  | dk =>
    obtain ⟨a, kvs, l, rfl, e1, e2, e3, e4, r⟩ := h
    exact ⟨a, kvs, l, rfl, e1, e2, hF a (by simp) _ e3, e4, RepV.kp k r⟩
  | dt =>
    obtain ⟨a, kvs, l, rfl, e1, e2, e3, e4, r⟩ := h
    exact ⟨a, kvs, l, rfl, e1, e2, hF a (by simp) _ e3, e4, RepV.kp k r⟩
  | src =>
    obtain ⟨a, c, cells, left, mixed, turn, rfl, e1, e2, e3, e4⟩ := h
    exact ⟨a, c, cells, left, mixed, turn, rfl, e1, e2, hF a (by simp) _ e3, hF c (by simp) _ e4⟩
end

section
variable {K : PySem.W.Frag} {ks : List Kd} {ps : List (Nat × V)} {G : Addr → Prop} {F F' : List (List Addr)} {σ : L2.St} {H H' : Hp} {env : Ev}
theorem EI.same (I : EI K ks ps G F σ H env) (s : Same H H') : EI K ks ps G F σ H' env where
  lF := I.lF
  lE := I.lE
  lS := I.lS
  nd := I.nd
  tr := fun a h => ⟨(Stp.same (F := F) s).dom a (I.tr a h).1, (I.tr a h).2⟩
  gt := fun a h => (Stp.same (F := F) s).dom a (I.gt a h)
  sl := fun i d kd h1 h2 => by
    obtain ⟨v, Fi, e1, e2, o⟩ := I.sl i d kd h1 h2
    exact ⟨v, Fi, e1, e2, o.kp (Same.kp s) fun a _ ob e => s a ob e⟩
  pn := I.pn
  fz := I.fz
/-- a slot of the env that is not owned -/
theorem EI.at_frz (I : EI K ks ps G F σ H env) {i : Nat} {d : PyData} (h1 : env[i]? = some (some d)) (h2 : ks[i]? = some .frz) : ∃ v, σ[i]? = some (some v) ∧ Rep K H (OO G F) d v := by
  obtain ⟨v, Fi, e1, e2, o⟩ := I.sl i d _ h1 h2
  exact ⟨v, e1, o.2⟩
end

/-! ### readings over data -/
def tD (K : PySem.W.Frag) (ks : List Kd) (ps : List (Nat × V)) (m : Ev → Option (PyData × Ev)) : TE := fun σ H Q => ∃ G F env d env', EI K ks ps G F σ H env ∧ m env = some (d, env') ∧
  ∀ v F' H', Stp F H F' H' → EI K ks ps G F' σ H' env' → Rep K H' (OO G F') d v → Q v H'
def tT (K : PySem.W.Frag) (ks : List Kd) (ps : List (Nat × V)) (m : Ev → Option (Bool × Ev)) : TT := fun σ H Q => ∃ G F env b env', EI K ks ps G F σ H env ∧ m env = some (b, env') ∧
  ∀ F' H', Stp F H F' H' → EI K ks ps G F' σ H' env' → Q b H'
def tA (K : PySem.W.Frag) (ks : List Kd) (ps : List (Nat × V)) (m : Ev → Option (List PyData × Ev)) : TA := fun σ H Q => ∃ G F env ds env', EI K ks ps G F σ H env ∧ m env = some (ds, env') ∧
  ∀ vs F' H', Stp F H F' H' → EI K ks ps G F' σ H' env' → RepA K H' (OO G F') ds vs → Q vs H'
inductive Out where
  | nx (env : Ev) | rt (d : PyData) (env : Ev) | bk (env : Ev) | ct (env : Ev)
def tS (K : PySem.W.Frag) (ks : List Kd) (ps : List (Nat × V)) (rk : Kd) (m : Ev → Option Out) : TS := fun D σ H => ∃ G F env o, EI K ks ps G F σ H env ∧ m env = some o ∧
  match o with
  | .nx e => ∀ σ' F' H', Stp F H F' H' → EI K ks ps G F' σ' H' e → D.nx σ' H'
  | .rt d e => ∀ v σ' F' H' Fr, Stp F H F' H' → EI K ks ps (fun a => G a ∨ a ∈ Fr) F' σ' H' e → OwnAt K H' (OO (fun a => G a ∨ a ∈ Fr) F') rk Fr d v → Fr.Nodup → (∀ a ∈ Fr, ¬ G a ∧ (a ∈ F.flatten ∨ H a = none)) → D.rt v H'
  | .bk e => ∀ σ' F' H', Stp F H F' H' → EI K ks ps G F' σ' H' e → D.bk σ' H'
  | .ct e => ∀ σ' F' H', Stp F H F' H' → EI K ks ps G F' σ' H' e → D.ct σ' H'
theorem Stp.back {F F' : List (List Addr)} {H H' : Hp} (S : Stp F H F' H') {p : Addr} (hp : H' p = none) : H p = none := by
  cases z : H p with
  | none => rfl
  | some o => exact absurd hp (S.dom p (by rw [z]; simp))

theorem Stp.nw {F F' : List (List Addr)} {H H' : Hp} (S : Stp F H F' H') {p : Addr} (h : p ∈ F'.flatten ∨ H' p = none) : p ∈ F.flatten ∨ H p = none := h.elim (S.new p) fun z => .inr (S.back z)

abbrev ED (X : Cx) (ks : List Kd) (ps : List (Nat × V)) (e : Expr) (m : Ev → Option (PyData × Ev)) : Prop := PE X e (tD X.K ks ps m)
abbrev TD (X : Cx) (ks : List Kd) (ps : List (Nat × V)) (e : Expr) (m : Ev → Option (Bool × Ev)) : Prop := PT X e (tT X.K ks ps m)
abbrev WD (X : Cx) (ks : List Kd) (ps : List (Nat × V)) (e : Expr) (m : Ev → Option (Bool × Ev)) : Prop := PW X e (tT X.K ks ps m)
abbrev AD (X : Cx) (ks : List Kd) (ps : List (Nat × V)) (es : List Expr) (m : Ev → Option (List PyData × Ev)) : Prop := PA X es (tA X.K ks ps m)
abbrev SD (X : Cx) (ks : List Kd) (ps : List (Nat × V)) (rk : Kd) (st : Stmt) (m : Ev → Option Out) : Prop := PS X st (tS X.K ks ps rk m)
abbrev SsD (X : Cx) (ks : List Kd) (ps : List (Nat × V)) (rk : Kd) (st : List Stmt) (m : Ev → Option Out) : Prop := PSs X st (tS X.K ks ps rk m)

theorem PE.imp {X : Cx} {e : Expr} {t t' : TE} (h : PE X e t) (w : ∀ σ H Q, t' σ H Q → t σ H Q) : PE X e t' := ⟨fun pins s σ H Q I q => h.run pins s σ H Q I (w σ H Q q)⟩
theorem PT.imp {X : Cx} {e : Expr} {t t' : TT} (h : PT X e t) (w : ∀ σ H Q, t' σ H Q → t σ H Q) : PT X e t' := ⟨fun pins s σ H Q I q => h.run pins s σ H Q I (w σ H Q q)⟩
theorem PW.imp {X : Cx} {e : Expr} {t t' : TT} (h : PW X e t) (w : ∀ σ H Q, t' σ H Q → t σ H Q) : PW X e t' := ⟨fun wh pins s σ H Q I q => h.run wh pins s σ H Q I (w σ H Q q)⟩
theorem PA.imp {X : Cx} {es : List Expr} {t t' : TA} (h : PA X es t) (w : ∀ σ H Q, t' σ H Q → t σ H Q) : PA X es t' := ⟨fun pos pins s σ H Q I q => h.run pos pins s σ H Q I (w σ H Q q)⟩
theorem PS.imp {X : Cx} {st : Stmt} {t t' : TS} (h : PS X st t) (w : ∀ D σ H, t' D σ H → t D σ H) : PS X st t' := ⟨fun pins s σ H D I q => h.run pins s σ H D I (w D σ H q)⟩
theorem PSs.imp {X : Cx} {st : List Stmt} {t t' : TS} (h : PSs X st t) (w : ∀ D σ H, t' D σ H → t D σ H) : PSs X st t' := ⟨fun pins s σ H D I q => h.run pins s σ H D I (w D σ H q)⟩

/-! ### the monad -/
abbrev M (α : Type) := Ev → Option (α × Ev)
def ret {α : Type} (a : α) : M α := fun e => some (a, e)
def bnd {α β : Type} (m : M α) (f : α → M β) : M β := fun e => match m e with
  | none => none
  | some (a, e') => f a e'
def lft {α : Type} (o : Option α) : M α := fun e => match o with
  | none => none
  | some a => some (a, e)
theorem bnd_some {α β : Type} {m : M α} {f : α → M β} {e e2 : Ev} {b : β} (h : bnd m f e = some (b, e2)) : ∃ a e1, m e = some (a, e1) ∧ f a e1 = some (b, e2) := by
  unfold bnd at h
  cases q : m e with
  | none => rw [q] at h; cases h
  | some p => obtain ⟨a, e1⟩ := p; rw [q] at h; exact ⟨a, e1, rfl, h⟩
theorem lft_some {α : Type} {o : Option α} {e e2 : Ev} {b : α} (h : lft o e = some (b, e2)) : o = some b ∧ e2 = e := by
  unfold lft at h
  cases o with
  | none => cases h
  | some a => cases h; exact ⟨rfl, rfl⟩
end DL

/-! DLB: expressions over data. -/
namespace DL
open PySem PySem.Spec PyProof.Rows L2

/-! ### operands: a datum, or a slot that owns what it holds -/
inductive Opd where
  | val (d : PyData) | slot (i : Nat)
def Opd.get : Opd → Ev → Option PyData
  | .val d, _ => some d
  | .slot i, e => match e[i]? with
    | some (some d) => some d
    | _ => none
def Opd.own : Opd → Bool
  | .val _ => false
  | .slot _ => true
def getAll : List Opd → Ev → Option (List PyData)
  | [], _ => some []
  | o :: r, e => match o.get e with
    | none => none
    | some d => match getAll r e with
      | none => none
      | some ds => some (d :: ds)

mutual
/-- nothing in it may change -/
def imm : PyData → Bool
  | .none | .bool _ | .int _ | .str _ => true
  | .tuple xs => immA xs
  | .list _ | .dict _ => false
def immA : List PyData → Bool
  | [] => true
  | x :: xs => imm x && immA xs
end
section
variable {K : PySem.W.Frag} {H : Hp} {O O' : Addr → Prop}
mutual
theorem Rep.imm : ∀ {d : PyData} {v : V}, DL.imm d = true → Rep K H O d v → Rep K H O' d v
  | .none, v, _, h => by simp only [Rep] at h ⊢; exact h
  | .bool b, v, _, h => by simp only [Rep] at h ⊢; exact h
  | .int i, v, _, h => by simp only [Rep] at h ⊢; exact h
  | .str x, v, _, h => by simp only [Rep] at h ⊢; exact h
  | .list ds, v, i, h => by simp only [DL.imm] at i; cases i
  | .tuple ds, v, i, h => by
    simp only [Rep] at h ⊢
    simp only [DL.imm] at i
    obtain ⟨a, xs, e, h1, h2⟩ := h
    exact ⟨a, xs, e, h1, RepA.imm i h2⟩
  | .dict kvs, v, i, h => by simp only [DL.imm] at i; cases i
theorem RepA.imm : ∀ {ds : List PyData} {xs : List V}, immA ds = true → RepA K H O ds xs → RepA K H O' ds xs
  | [], xs, _, h => by simp only [RepA] at h ⊢; exact h
  | d :: ds, xs, i, h => by
    simp only [RepA] at h ⊢
    simp only [immA, Bool.and_eq_true] at i
    obtain ⟨x, r, e, h1, h2⟩ := h
    exact ⟨x, r, e, Rep.imm i.1 h1, RepA.imm i.2 h2⟩
end
end

/-- the operand is v -/
def HoldsO (K : PySem.W.Frag) (ks : List Kd) (G : Addr → Prop) (F : List (List Addr)) (σ : L2.St) (H : Hp) : Opd → V → Prop
  | .val d, v => Rep K H (OO G F) d v
  | .slot i, v => σ[i]? = some (some v)
def HoldsA (K : PySem.W.Frag) (ks : List Kd) (G : Addr → Prop) (F : List (List Addr)) (σ : L2.St) (H : Hp) : List Opd → List V → Prop
  | [], xs => xs = []
  | o :: r, xs => ∃ x t, xs = x :: t ∧ HoldsO K ks G F σ H o x ∧ HoldsA K ks G F σ H r t
section
variable {K : PySem.W.Frag} {ks : List Kd} {ps : List (Nat × V)} {G : Addr → Prop} {F F' : List (List Addr)} {σ : L2.St} {H H' : Hp} {env : Ev}
theorem HoldsO.stp {o : Opd} {v : V} (s : Stp F H F' H') (h : HoldsO K ks G F σ H o v) : HoldsO K ks G F' σ H' o v := by
  cases o with
  | val d => exact Rep.kp s.kp h
  | slot i => exact h
theorem HoldsA.stp (s : Stp F H F' H') : ∀ {os : List Opd} {vs : List V}, HoldsA K ks G F σ H os vs → HoldsA K ks G F' σ H' os vs
  | [], _, h => h
  | o :: r, _, h => by
    obtain ⟨x, t, e, h1, h2⟩ := h
    exact ⟨x, t, e, h1.stp s, HoldsA.stp s h2⟩

/-- what is owned, read as data that keeps apart from P -/
theorem OwnAt.repP {O P : Addr → Prop} {kd : Kd} {Fi : List Addr} {d : PyData} {v : V} (hP : ∀ a, P a → O a) (hF : ∀ a ∈ Fi, ¬ P a) (h : OwnAt K H O kd Fi d v) : Rep K H P d v := by
  have k : Kp O H P H := .less hP
  cases kd with
  | frz => exact Rep.kp k h.2
  | l1 =>
    obtain ⟨a, xs, ds, rfl, rfl, rfl, e, r⟩ := h
    simp only [Rep]
    exact ⟨a, xs, rfl, LstAt.rd (.inl e) (hF a (by simp)), RepA.kp k r⟩
  | l2 =>
    obtain ⟨a, bs, dss, rfl, rfl, rfl, e, el, r⟩ := h
    simp only [Rep]
    refine ⟨a, _, rfl, LstAt.rd (.inl e) (hF a (by simp)), .mk (by simp [el]) fun i d x e1 e2 => ?_⟩
    rw [List.getElem?_map] at e1 e2
    cases g1 : bs[i]? with
    | none => rw [g1] at e2; cases e2
    | some b =>
      cases g2 : dss[i]? with
      | none => rw [g2] at e1; cases e1
      | some ds =>
        rw [g1] at e2; rw [g2] at e1; cases e1; cases e2
        obtain ⟨xs, q1, q2⟩ := r i b ds g1 g2
        simp only [Rep]
        exact ⟨b, xs, rfl, LstAt.rd (.inl q1) (hF b (List.mem_cons_of_mem _ (List.mem_of_getElem? g1))), RepA.kp k q2⟩
  | dk =>
    obtain ⟨a, kvs, l, rfl, rfl, rfl, e, e4, r⟩ := h
    simp only [Rep]
    exact ⟨a, _, rfl, hF a (by simp), .inl ⟨l, .inl e, e4, rfl⟩, RepV.kp k r⟩
  | dt =>
    obtain ⟨a, kvs, l, rfl, rfl, rfl, e, e4, r⟩ := h
    simp only [Rep]
    exact ⟨a, _, rfl, hF a (by simp), .inr ⟨l, .inl e, e4, rfl⟩, RepV.kp k r⟩
  | src =>
    obtain ⟨a, c, cells, left, mixed, turn, rfl, rfl, rfl, e1, e2⟩ := h
    simp only [Rep, srcD]
    refine ⟨a, _, rfl, hF a (by simp), .inl ⟨_, .inl e1, rfl, rfl⟩, ?_⟩
    simp only [List.map_cons, List.map_nil, RepV]
    refine ⟨_, _, rfl, ?_, _, _, rfl, ?_, _, _, rfl, ?_, _, _, rfl, ?_, rfl⟩
    · simp only [Rep]
      refine ⟨c, _, rfl, LstAt.rd (.inl e2) (hF c (by simp)), .mk (by simp) fun i d x g1 g2 => ?_⟩
      rw [List.getElem?_map] at g1 g2
      cases q : cells[i]? with
      | none => rw [q] at g1; cases g1
      | some n => rw [q] at g1 g2; cases g1; cases g2; simp only [Rep]
    · simp only [Rep]
    · simp only [Rep]
    · simp only [Rep]
/-- .. no wish about what else may hold it -/
theorem OwnAt.rep {O : Addr → Prop} {kd : Kd} {Fi : List Addr} {d : PyData} {v : V} (h : OwnAt K H O kd Fi d v) : Rep K H (fun _ => False) d v := h.repP (fun _ z => z.elim) fun _ _ z => z
/-- an operand's datum -/
theorem HoldsO.rep {o : Opd} {v : V} {d : PyData} (I : EI K ks ps G F σ H env) (h : HoldsO K ks G F σ H o v) (e : o.get env = some d) : Rep K H (if o.own then fun _ => False else OO G F) d v := by
  cases o with
  | val d' => cases e; exact h
  | slot i =>
    unfold Opd.get at e
    dsimp only at e
    have hi : ∃ d', env[i]? = some (some d') ∧ d' = d := by
      split at e
      · cases e; exact ⟨_, by assumption, rfl⟩
      · cases e
    obtain ⟨d', e1, rfl⟩ := hi
    have hk : i < ks.length := by
      rw [← I.lE]
      exact (List.getElem?_eq_some_iff.mp e1).1
    obtain ⟨v', Fi, g1, g2, o⟩ := I.sl i d' _ e1 (List.getElem?_eq_getElem hk)
    have : v' = v := by
      have h' : σ[i]? = some (some v) := h
      rw [h'] at g1; cases g1; rfl
    subst this
    exact o.rep
end

/-! ### values in, a value out -/
def Op2 (X : Cx) (f : Value → Value → Sem Value) (g : PyData → PyData → Option PyData) : Prop :=
  OpR X f (fun x y H Q => ∃ O dx dy d, (∀ p, H p = none → ¬ O p) ∧ Rep X.K H O dx x ∧ Rep X.K H O dy y ∧ g dx dy = some d ∧ ∀ v H', Same H H' → Rep X.K H' O d v → Q v H')
def Op1 (X : Cx) (f : Value → Sem Value) (g : PyData → Option PyData) : Prop :=
  UnR X f (fun x H Q => ∃ O dx d, (∀ p, H p = none → ¬ O p) ∧ Rep X.K H O dx x ∧ g dx = some d ∧ ∀ v H', Same H H' → Rep X.K H' O d v → Q v H')
def FnV (X : Cx) (f : Value) (g : List PyData → Option PyData) : Prop :=
  CallR X f (fun xs H Q => ∃ O ds d, (∀ p, H p = none → ¬ O p) ∧ RepA X.K H O ds xs ∧ g ds = some d ∧ ∀ v H', Same H H' → Rep X.K H' O d v → Q v H')

def tR (K : PySem.W.Frag) (ks : List Kd) (ps : List (Nat × V)) (m : M Opd) : TE := fun σ H Q => ∃ G F env o env', EI K ks ps G F σ H env ∧ m env = some (o, env') ∧
  ∀ v F' H', Stp F H F' H' → EI K ks ps G F' σ H' env' → HoldsO K ks G F' σ H' o v → Q v H'
def tAo (K : PySem.W.Frag) (ks : List Kd) (ps : List (Nat × V)) (m : M (List Opd)) : TA := fun σ H Q => ∃ G F env os env', EI K ks ps G F σ H env ∧ m env = some (os, env') ∧
  ∀ vs F' H', Stp F H F' H' → EI K ks ps G F' σ H' env' → HoldsA K ks G F' σ H' os vs → Q vs H'
/-- an operand -/
abbrev RD (X : Cx) (ks : List Kd) (ps : List (Nat × V)) (e : Expr) (m : M Opd) : Prop := PE X e (tR X.K ks ps m)
abbrev AoD (X : Cx) (ks : List Kd) (ps : List (Nat × V)) (es : List Expr) (m : M (List Opd)) : Prop := PA X es (tAo X.K ks ps m)

def mVal (m : M PyData) : M Opd := bnd m fun d => ret (.val d)
def mSlot (i : Nat) : M Opd := fun e => match e[i]? with
  | some (some _) => some (.slot i, e)
  | _ => none
def mVar (i : Nat) : M PyData := fun e => match e[i]? with
  | some (some d) => some (d, e)
  | _ => none
def mA0 : M (List Opd) := ret []
def mA (m : M Opd) (r : M (List Opd)) : M (List Opd) := bnd m fun o => bnd r fun os => ret (o :: os)
def rs1 (g : PyData → Option PyData) (o : Opd) : M PyData := fun e => match o.get e with
  | none => none
  | some d => match g d with
    | none => none
    | some r => if o.own && !imm r then none else some (r, e)
def rs2 (g : PyData → PyData → Option PyData) (o p : Opd) : M PyData := fun e => match o.get e with
  | none => none
  | some d => match p.get e with
    | none => none
    | some d' => match g d d' with
      | none => none
      | some r => if (o.own || p.own) && !imm r then none else some (r, e)
def rsN (g : List PyData → Option PyData) (os : List Opd) : M PyData := fun e => match getAll os e with
  | none => none
  | some ds => match g ds with
    | none => none
    | some r => if os.any Opd.own && !imm r then none else some (r, e)
def mBin (g : PyData → PyData → Option PyData) (ma mb : M Opd) : M PyData := bnd ma fun x => bnd mb fun y => rs2 g x y
def mUn (g : PyData → Option PyData) (ma : M Opd) : M PyData := bnd ma fun x => rs1 g x
def mCallB (g : List PyData → Option PyData) (ma : M (List Opd)) : M PyData := bnd ma fun os => rsN g os

section
variable {X : Cx} {ks : List Kd} {ps : List (Nat × V)} {a b c e : Expr} {es : List Expr} {pos : Pos}

theorem rd_val {m : M PyData} (h : ED X ks ps e m) : RD X ks ps e (mVal m) := PE.imp h fun σ H Q q => by
  obtain ⟨G, F, env, o, env', I, hm, q⟩ := q
  obtain ⟨d, e1, h1, h2⟩ := bnd_some hm
  cases h2
  exact ⟨G, F, env, d, env', I, h1, fun v F' H' S J r => q v F' H' S J r⟩
theorem rd_slot (i : Nat) {x : Str} (hN : X.N[i]? = some x := by rfl) (hv : Vis X.env.scope x := by first | exact Or.inl rfl | exact Or.inr (Or.inl rfl) | exact Or.inr (Or.inr rfl)) (hd : (x == ("__debug__" : Str)) = false := by decide)
    (hcd : (x == ("__classdict__" : Str)) = false := by decide) : RD X ks ps (.Name x pos) (mSlot i) := PE.imp (pe_var hN hv hd hcd) fun σ H Q q => by
  obtain ⟨G, F, env, o, env', I, hm, q⟩ := q
  unfold mSlot at hm
  split at hm
  · rename_i d he
    cases hm
    have hk : i < ks.length := by rw [← I.lE]; exact (List.getElem?_eq_some_iff.mp he).1
    obtain ⟨v, Fi, g1, g2, o⟩ := I.sl i d _ he (List.getElem?_eq_getElem hk)
    exact ⟨v, g1, q v F H .refl I g1⟩
  · cases hm
theorem ed_var (i : Nat) {x : Str} (hN : X.N[i]? = some x := by rfl) (hk : ks[i]? = some .frz := by rfl) (hv : Vis X.env.scope x := by first | exact Or.inl rfl | exact Or.inr (Or.inl rfl) | exact Or.inr (Or.inr rfl)) (hd : (x == ("__debug__" : Str)) = false := by decide)
    (hcd : (x == ("__classdict__" : Str)) = false := by decide) : ED X ks ps (.Name x pos) (mVar i) := PE.imp (pe_var hN hv hd hcd) fun σ H Q q => by
  obtain ⟨G, F, env, d, env', I, hm, q⟩ := q
  unfold mVar at hm
  split at hm
  · rename_i d' he
    cases hm
    obtain ⟨v, g1, r⟩ := I.at_frz he hk
    exact ⟨v, g1, q v F H .refl I r⟩
  · cases hm
/-- a constant -/
theorem ed_c {d : PyData} {v : V} (h : PE X e (tC v)) (hr : ∀ H O, Rep X.K H O d v) : ED X ks ps e (ret d) := PE.imp h fun σ H Q q => by
  obtain ⟨G, F, env, d', env', I, hm, q⟩ := q
  cases hm
  exact q v F H .refl I (hr _ _)
theorem ed_int {i j} : ED X ks ps (.Constant (.int i) j pos) (ret (.int i)) := ed_c pe_int fun _ _ => by simp only [Rep]
theorem ed_bl {b j} : ED X ks ps (.Constant (.bool b) j pos) (ret (.bool b)) := ed_c pe_bl fun _ _ => by simp only [Rep]
theorem ed_non {j} : ED X ks ps (.Constant .none j pos) (ret .none) := ed_c pe_non fun _ _ => by simp only [Rep]
theorem ed_str {x j} : ED X ks ps (.Constant (.str x) j pos) (ret (.str x)) := ed_c pe_str fun _ _ => by simp only [Rep]

theorem ifown {K : PySem.W.Frag} {H : Hp} {O : Addr → Prop} {b : Bool} {d : PyData} {v : V} (hi : ¬ (b && !imm d) = true) (h : Rep K H (if b then fun _ => False else O) d v) : Rep K H O d v := by
  cases b with
  | false => exact h
  | true =>
    have : imm d = true := by simpa using hi
    exact Rep.imm this h
theorem less_if {O : Addr → Prop} {H : Hp} {a b : Bool} (h : a = true → b = true) : Kp (if a then fun _ => False else O) H (if b then fun _ => False else O) H := .less fun p => by
  cases a with
  | true => rw [h rfl]; exact fun z => z
  | false =>
    cases b with
    | true => exact fun z => z.elim
    | false => exact fun z => z

/-- behind two operands -/
theorem rs2_some {g : PyData → PyData → Option PyData} {o p : Opd} {e e2 : Ev} {r : PyData} (h : rs2 g o p e = some (r, e2)) : e2 = e ∧ ∃ d d', o.get e = some d ∧ p.get e = some d' ∧ g d d' = some r ∧ ¬ ((o.own || p.own) && !imm r) = true := by
  unfold rs2 at h
  split at h
  · cases h
  · rename_i d h1
    split at h
    · cases h
    · rename_i d' h2
      split at h
      · cases h
      · rename_i r' h3
        split at h
        · cases h
        · rename_i h4
          cases h
          exact ⟨rfl, d, d', h1, h2, h3, h4⟩
theorem rs1_some {g : PyData → Option PyData} {o : Opd} {e e2 : Ev} {r : PyData} (h : rs1 g o e = some (r, e2)) : e2 = e ∧ ∃ d, o.get e = some d ∧ g d = some r ∧ ¬ (o.own && !imm r) = true := by
  unfold rs1 at h
  split at h
  · cases h
  · rename_i d h1
    split at h
    · cases h
    · rename_i r' h3
      split at h
      · cases h
      · rename_i h4
        cases h
        exact ⟨rfl, d, h1, h3, h4⟩
theorem rsN_some {g : List PyData → Option PyData} {os : List Opd} {e e2 : Ev} {r : PyData} (h : rsN g os e = some (r, e2)) : e2 = e ∧ ∃ ds, getAll os e = some ds ∧ g ds = some r ∧ ¬ (os.any Opd.own && !imm r) = true := by
  unfold rsN at h
  split at h
  · cases h
  · rename_i d h1
    split at h
    · cases h
    · rename_i r' h3
      split at h
      · cases h
      · rename_i h4
        cases h
        exact ⟨rfl, d, h1, h3, h4⟩
theorem HoldsA.rep {K : PySem.W.Frag} {G : Addr → Prop} {F : List (List Addr)} {σ : L2.St} {H : Hp} {env : Ev} (I : EI K ks ps G F σ H env) : ∀ {os : List Opd} {vs : List V} {ds : List PyData}, HoldsA K ks G F σ H os vs → getAll os env = some ds →
    RepA K H (if os.any Opd.own then fun _ => False else OO G F) ds vs
  | [], _, _, h, e => by cases e; simp only [RepA]; exact h
  | o :: r, _, ds, h, e => by
    obtain ⟨x, t, rfl, h1, h2⟩ := h
    unfold getAll at e
    split at e
    · cases e
    · rename_i d g1
      split at e
      · cases e
      · rename_i ds' g2
        cases e
        have a1 := HoldsO.rep I h1 g1
        have a2 := HoldsA.rep I h2 g2
        exact .cons (Rep.kp (less_if (by intro z; simp [z])) a1) (RepA.kp (less_if (by intro z; simp [z])) a2)

theorem OO_new {K : PySem.W.Frag} {G : Addr → Prop} {F : List (List Addr)} {σ : L2.St} {H : Hp} {env : Ev} (I : EI K ks ps G F σ H env) {p : Addr} (h : H p = none) : ¬ OO G F p := fun z => by
  rcases z with z | z
  · exact I.gt p z h
  · exact (I.tr p z).1 h
theorem fresh_if {K : PySem.W.Frag} {G : Addr → Prop} {F : List (List Addr)} {σ : L2.St} {H : Hp} {env : Ev} (I : EI K ks ps G F σ H env) {b : Bool} : ∀ p, H p = none → ¬ (if b then fun _ => False else OO G F) p := fun p hp => by
  cases b with
  | true => exact fun z => z
  | false => exact OO_new I hp
/-- the pattern of a two-place operation -/
theorem red2 {ma mb : M Opd} {g : PyData → PyData → Option PyData} {σ : L2.St} {H : Hp} {Q : VK} {r : R2}
    (hr : ∀ x y H Q, (∃ O dx dy d, (∀ p, H p = none → ¬ O p) ∧ Rep X.K H O dx x ∧ Rep X.K H O dy y ∧ g dx dy = some d ∧ ∀ v H', Same H H' → Rep X.K H' O d v → Q v H') → r x y H Q)
    (q : tD X.K ks ps (mBin g ma mb) σ H Q) : tOp r (tR X.K ks ps ma) (tR X.K ks ps mb) σ H Q := by
  obtain ⟨G, F, env, d, env', I, hm, q⟩ := q
  obtain ⟨ox, e1, h1, h2⟩ := bnd_some hm
  obtain ⟨oy, e2, h3, h4⟩ := bnd_some h2
  obtain ⟨rfl, dx, dy, g1, g2, g3, gi⟩ := rs2_some h4
  refine ⟨G, F, env, ox, e1, I, h1, fun v F1 H1 S1 I1 r1 => ⟨G, F1, e1, oy, env', I1, h3, fun u F2 H2 S2 I2 r2 => hr v u H2 Q ?_⟩⟩
  have r1' := HoldsO.rep I2 (r1.stp S2) g1
  have r2' := HoldsO.rep I2 r2 g2
  refine ⟨if (ox.own || oy.own) then fun _ => False else OO G F2, dx, dy, d, fresh_if I2, Rep.kp (less_if (by intro z; simp [z])) r1', Rep.kp (less_if (by intro z; simp [z])) r2', g3, fun w H3 s3 r3 => ?_⟩
  exact q w F2 H3 ((S1.trans S2).trans (.same s3)) (I2.same s3) (ifown gi r3)
theorem ed_bin {op : Operator} {g : PyData → PyData → Option PyData} {ma mb : M Opd} (ho : Op2 X (binaryOp op) g) (ha : RD X ks ps a ma) (hb : RD X ks ps b mb) : ED X ks ps (.BinOp a op b pos) (mBin g ma mb) :=
  PE.imp (pe_op ho ha hb) fun σ H Q q => red2 (fun x y H Q z => z) q
theorem ed_cmp {op : CmpOp} {g : PyData → PyData → Option PyData} {ma mb : M Opd} (ho : Op2 X (compareOp op) g) (ha : RD X ks ps a ma) (hb : RD X ks ps b mb) (hm : behindInMarks op b = false) : ED X ks ps (.Compare a [op] [b] pos) (mBin g ma mb) :=
  PE.imp (pe_cmpR ho ha hb hm) fun σ H Q q => red2 (fun x y H Q z => z) q
theorem ed_un {op : UnaryOp} {g : PyData → Option PyData} {ma : M Opd} (ho : Op1 X (unaryOp op) g) (ha : RD X ks ps a ma) : ED X ks ps (.UnaryOp op a pos) (mUn g ma) := PE.imp (pe_un ho ha) fun σ H Q q => by
  obtain ⟨G, F, env, d, env', I, hm, q⟩ := q
  obtain ⟨ox, e1, h1, h2⟩ := bnd_some hm
  obtain ⟨rfl, dx, g1, g3, gi⟩ := rs1_some h2
  refine ⟨G, F, env, ox, env', I, h1, fun v F1 H1 S1 I1 r1 => ⟨_, dx, d, fresh_if I1, HoldsO.rep I1 r1 g1, g3, fun w H3 s3 r3 => ?_⟩⟩
  exact q w F1 H3 (S1.trans (.same s3)) (I1.same s3) (ifown gi r3)

/-! ### tests -/
def bOf : PyData → Option Bool
  | .bool b => some b
  | _ => none
def mTest (m : M PyData) : M Bool := bnd m fun d => lft (bOf d)
theorem td_cmp {op : CmpOp} {g : PyData → PyData → Option PyData} {ma mb : M Opd} (ho : Op2 X (compareOp op) g) (ha : RD X ks ps a ma) (hb : RD X ks ps b mb) (hm : behindInMarks op b = false) : TD X ks ps (.Compare a [op] [b] pos) (mTest (mBin g ma mb)) :=
  PT.imp (pt_cmpR ho ha hb hm) fun σ H Q q => by
    obtain ⟨G, F, env, d, env', I, hm, q⟩ := q
    obtain ⟨x, e1, h1, h2⟩ := bnd_some hm
    obtain ⟨h2, rfl⟩ := lft_some h2
    refine red2 (fun x y H Q z => z) ⟨G, F, env, x, env', I, h1, fun v F' H' S J r => ?_⟩
    cases x with
    | bool k =>
      cases h2
      simp only [Rep] at r
      exact ⟨_, r, q F' H' S J⟩
    | _ => cases h2
theorem td_val {m : M PyData} (h : ED X ks ps e m) (he : ∀ whole, isTrue e X.env whole = (do let v ← whole; standAt e.pos; holding [v] (truthy v)) := by intro _; rfl) : TD X ks ps e (mTest m) :=
  PT.imp (pt_val h he) fun σ H Q q => by
    obtain ⟨G, F, env, d, env', I, hm, q⟩ := q
    obtain ⟨x, e1, h1, h2⟩ := bnd_some hm
    obtain ⟨h2, rfl⟩ := lft_some h2
    refine ⟨G, F, env, x, env', I, h1, fun v F' H' S J r => ?_⟩
    cases x with
    | bool k =>
      cases h2
      simp only [Rep] at r
      exact ⟨_, r, q F' H' S J⟩
    | _ => cases h2
def mNot (m : M Bool) : M Bool := bnd m fun b => ret (!b)
def mAnd (m n : M Bool) : M Bool := bnd m fun b => if b then n else ret false
def mOr (m n : M Bool) : M Bool := bnd m fun b => if b then ret true else n
theorem td_not {m : M Bool} (h : TD X ks ps a m) : TD X ks ps (.UnaryOp .Not a pos) (mNot m) := PT.imp (pt_not h) fun σ H Q q => by
  obtain ⟨G, F, env, d, env', I, hm, q⟩ := q
  obtain ⟨x, e1, h1, h2⟩ := bnd_some hm
  cases h2
  exact ⟨G, F, env, x, env', I, h1, fun F' H' S J => q F' H' S J⟩
theorem wd_pt {m : M Bool} (h : WD X ks ps e m) : TD X ks ps e m := PW.pt h
theorem wd_and1 {m : M Bool} (h : TD X ks ps a m) : WD X ks ps (.BoolOp .And [a] pos) m := pw_and1 h
theorem wd_or1 {m : M Bool} (h : TD X ks ps a m) : WD X ks ps (.BoolOp .Or [a] pos) m := pw_or1 h
theorem wd_and {m n : M Bool} {r : List Expr} (h : TD X ks ps a m) (h2 : WD X ks ps (.BoolOp .And (b :: r) pos) n) : WD X ks ps (.BoolOp .And (a :: b :: r) pos) (mAnd m n) := PW.imp (pw_and h h2) fun σ H Q q => by
  obtain ⟨G, F, env, d, env', I, hm, q⟩ := q
  obtain ⟨x, e1, h1, h2⟩ := bnd_some hm
  refine ⟨G, F, env, x, e1, I, h1, fun F' H' S J => ?_⟩
  cases x with
  | true => exact iteT ⟨G, F', e1, d, env', J, h2, fun F2 H2 S2 J2 => q F2 H2 (S.trans S2) J2⟩
  | false => cases h2; exact iteF (q F' H' S J)
theorem wd_or {m n : M Bool} {r : List Expr} (h : TD X ks ps a m) (h2 : WD X ks ps (.BoolOp .Or (b :: r) pos) n) : WD X ks ps (.BoolOp .Or (a :: b :: r) pos) (mOr m n) := PW.imp (pw_or h h2) fun σ H Q q => by
  obtain ⟨G, F, env, d, env', I, hm, q⟩ := q
  obtain ⟨x, e1, h1, h2⟩ := bnd_some hm
  refine ⟨G, F, env, x, e1, I, h1, fun F' H' S J => ?_⟩
  cases x with
  | false => exact iteF ⟨G, F', e1, d, env', J, h2, fun F2 H2 S2 J2 => q F2 H2 (S.trans S2) J2⟩
  | true => cases h2; exact iteT (q F' H' S J)
/-- the same as values, of bools -/
def mAndV (m n : M PyData) : M PyData := bnd (mTest m) fun b => if b then n else ret (.bool false)
def mOrV (m n : M PyData) : M PyData := bnd (mTest m) fun b => if b then ret (.bool true) else n
def mNotV (m : M PyData) : M PyData := bnd (mTest m) fun b => ret (.bool (!b))
theorem ed_one {op} {m : M PyData} (h : ED X ks ps a m) : ED X ks ps (.BoolOp op [a] pos) m := pe_one h
theorem mTest_bool {m : M PyData} {e e1 : Ev} {b : Bool} (h : mTest m e = some (b, e1)) : m e = some (.bool b, e1) := by
  obtain ⟨x, e2, h1, h2⟩ := bnd_some h
  obtain ⟨h2, rfl⟩ := lft_some h2
  cases x with
  | bool k => cases h2; exact h1
  | _ => cases h2
theorem ed_and {m n : M PyData} {r : List Expr} (h : ED X ks ps a m) (h2 : ED X ks ps (.BoolOp .And (b :: r) pos) n) : ED X ks ps (.BoolOp .And (a :: b :: r) pos) (mAndV m n) := PE.imp (pe_and h h2) fun σ H Q q => by
  obtain ⟨G, F, env, d, env', I, hm, q⟩ := q
  obtain ⟨x, e1, h1, h2⟩ := bnd_some hm
  refine ⟨G, F, env, _, e1, I, mTest_bool h1, fun v F' H' S J r => ?_⟩
  simp only [Rep] at r
  refine ⟨x, r, ?_⟩
  cases x with
  | true => exact iteT ⟨G, F', e1, d, env', J, h2, fun v F2 H2 S2 J2 => q v F2 H2 (S.trans S2) J2⟩
  | false => cases h2; exact iteF (q _ F' H' S J (by simp only [Rep]))
theorem ed_or {m n : M PyData} {r : List Expr} (h : ED X ks ps a m) (h2 : ED X ks ps (.BoolOp .Or (b :: r) pos) n) : ED X ks ps (.BoolOp .Or (a :: b :: r) pos) (mOrV m n) := PE.imp (pe_or h h2) fun σ H Q q => by
  obtain ⟨G, F, env, d, env', I, hm, q⟩ := q
  obtain ⟨x, e1, h1, h2⟩ := bnd_some hm
  refine ⟨G, F, env, _, e1, I, mTest_bool h1, fun v F' H' S J r => ?_⟩
  simp only [Rep] at r
  refine ⟨x, r, ?_⟩
  cases x with
  | false => exact iteF ⟨G, F', e1, d, env', J, h2, fun v F2 H2 S2 J2 => q v F2 H2 (S.trans S2) J2⟩
  | true => cases h2; exact iteT (q _ F' H' S J (by simp only [Rep]))
theorem ed_not {m : M PyData} (h : ED X ks ps a m) : ED X ks ps (.UnaryOp .Not a pos) (mNotV m) := PE.imp (pe_not h) fun σ H Q q => by
  obtain ⟨G, F, env, d, env', I, hm, q⟩ := q
  obtain ⟨x, e1, h1, h2⟩ := bnd_some hm
  cases h2
  refine ⟨G, F, env, _, _, I, mTest_bool h1, fun v F' H' S J r => ?_⟩
  simp only [Rep] at r
  exact ⟨x, r, q _ F' H' S J (by simp only [Rep])⟩
def mIf {α : Type} (c : M Bool) (m n : M α) : M α := bnd c fun b => if b then m else n
theorem ed_if {t : M Bool} {m n : M PyData} (hc : TD X ks ps c t) (ha : ED X ks ps a m) (hb : ED X ks ps b n) : ED X ks ps (.IfExp c a b pos) (mIf t m n) := PE.imp (pe_ifExp hc ha hb) fun σ H Q q => by
  obtain ⟨G, F, env, d, env', I, hm, q⟩ := q
  obtain ⟨x, e1, h1, h2⟩ := bnd_some hm
  refine ⟨G, F, env, x, e1, I, h1, fun F' H' S J => ?_⟩
  cases x with
  | true => exact iteT ⟨G, F', e1, d, env', J, h2, fun v F2 H2 S2 J2 => q v F2 H2 (S.trans S2) J2⟩
  | false => exact iteF ⟨G, F', e1, d, env', J, h2, fun v F2 H2 S2 J2 => q v F2 H2 (S.trans S2) J2⟩

/-! ### arguments, built-ins -/
theorem ad_nil : AoD X ks ps [] mA0 := PA.imp pa_nil fun σ H Q q => by
  obtain ⟨G, F, env, d, env', I, hm, q⟩ := q
  cases hm
  exact q [] F H .refl I rfl
theorem ad_cons {m : M Opd} {r : M (List Opd)} (ha : RD X ks ps e m) (hr : AoD X ks ps es r) (hs : starEach (e :: es) X.env = (false, eval e X.env) :: starEach es X.env := by rfl) : AoD X ks ps (e :: es) (mA m r) := PA.imp (pa_cons ha hr hs) fun σ H Q q => by
  obtain ⟨G, F, env, d, env', I, hm, q⟩ := q
  obtain ⟨o, e1, h1, h2⟩ := bnd_some hm
  obtain ⟨os, e2, h3, h4⟩ := bnd_some h2
  cases h4
  refine ⟨G, F, env, o, e1, I, h1, fun v F1 H1 S1 I1 r1 => ⟨G, F1, e1, os, env', I1, h3, fun vs F2 H2 S2 I2 r2 => ?_⟩⟩
  exact q (v :: vs) F2 H2 (S1.trans S2) I2 ⟨v, vs, rfl, r1.stp S2, r2⟩
theorem redN {ma : M (List Opd)} {g : List PyData → Option PyData} {σ : L2.St} {H : Hp} {Q : VK} {r : List V → Hp → VK → Prop}
    (hr : ∀ xs H Q, (∃ O ds d, (∀ p, H p = none → ¬ O p) ∧ RepA X.K H O ds xs ∧ g ds = some d ∧ ∀ v H', Same H H' → Rep X.K H' O d v → Q v H') → r xs H Q)
    (q : tD X.K ks ps (mCallB g ma) σ H Q) : tCB r (tAo X.K ks ps ma) σ H Q := by
  obtain ⟨G, F, env, d, env', I, hm, q⟩ := q
  obtain ⟨os, e1, h1, h2⟩ := bnd_some hm
  obtain ⟨rfl, ds, g1, g3, gi⟩ := rsN_some h2
  refine ⟨G, F, env, os, env', I, h1, fun vs F1 H1 S1 I1 r1 => hr vs H1 Q ⟨_, ds, d, fresh_if I1, HoldsA.rep I1 r1 g1, g3, fun w H3 s3 r3 => ?_⟩⟩
  exact q w F1 H3 (S1.trans (.same s3)) (I1.same s3) (ifown gi r3)
variable {x : Str} {p : Pos} {id T : String} {g : List PyData → Option PyData} {ma : M (List Opd)}
theorem ed_callB (hc : FnV X (.builtin id) g) (hg : Gl X x) (hm : X.mg x = none) (hv : bootBuiltins x = some (.builtin id)) (ha : AoD X ks ps (e :: es) ma) (hn : x ≠ "__name__" := by decide) (hdb : (x == ("__debug__" : Str)) = false := by decide)
    (he : starEach (e :: es) X.env = (false, eval e X.env) :: starEach es X.env := by rfl) (hpl : (backTo pos (starEach es X.env)).any (·.1) = false := by rfl) : ED X ks ps (.Call (.Name x p) (e :: es) [] pos) (mCallB g ma) :=
  PE.imp (pe_callB hc hg hm hv ha hn hdb he hpl) fun σ H Q q => redN (fun x H Q z => z) q
theorem ed_callTy (hc : FnV X (.type T) g) (hg : Gl X x) (hm : X.mg x = none) (hv : bootBuiltins x = some (.type T)) (ha : AoD X ks ps (e :: es) ma) (hn : x ≠ "__name__" := by decide) (hdb : (x == ("__debug__" : Str)) = false := by decide)
    (he : starEach (e :: es) X.env = (false, eval e X.env) :: starEach es X.env := by rfl) (hpl : (backTo pos (starEach es X.env)).any (·.1) = false := by rfl) : ED X ks ps (.Call (.Name x p) (e :: es) [] pos) (mCallB g ma) :=
  PE.imp (pe_callTy hc hg hm hv ha hn hdb he hpl) fun σ H Q q => redN (fun x H Q z => z) q

/-! ### displays -/
def allVal : List Opd → Option (List PyData)
  | [] => some []
  | .val d :: r => match allVal r with
    | none => none
    | some ds => some (d :: ds)
  | .slot _ :: _ => none
theorem HoldsA.vals {K : PySem.W.Frag} {G : Addr → Prop} {F : List (List Addr)} {σ : L2.St} {H : Hp} : ∀ {os : List Opd} {vs : List V} {ds : List PyData}, HoldsA K ks G F σ H os vs → allVal os = some ds → RepA K H (OO G F) ds vs
  | [], _, _, h, e => by cases e; simp only [RepA]; exact h
  | .val d :: r, _, ds, h, e => by
    obtain ⟨x, t, rfl, h1, h2⟩ := h
    unfold allVal at e
    split at e
    · cases e
    · rename_i ds' g2
      cases e
      exact .cons h1 (HoldsA.vals h2 g2)
  | .slot i :: r, _, ds, h, e => by cases e
def mTup (ma : M (List Opd)) : M PyData := bnd ma fun os => lft (match allVal os with
  | none => none
  | some ds => if ds.length ≤ 1000 then some (.tuple ds) else none)
def mLst (ma : M (List Opd)) : M PyData := bnd ma fun os => lft (match allVal os with
  | none => none
  | some ds => if ds.length ≤ 1000 then some (.list ds) else none)
theorem same_upd {H : Hp} {p : Addr} {o : HO} (h : H p = none) : Same H (upd H p o) := fun b x e => by rw [upd_ne (ne_of_none e h)]; exact e
theorem ed_tup {x1} (h : AoD X ks ps es ma) : ED X ks ps (.Tuple es x1 pos) (mTup ma) := PE.imp (pe_tup h) fun σ H Q q => by
  obtain ⟨G, F, env, d, env', I, hm, q⟩ := q
  obtain ⟨os, e1, h1, h2⟩ := bnd_some hm
  obtain ⟨h2, rfl⟩ := lft_some h2
  split at h2
  · cases h2
  · rename_i ds g
    split at h2
    · cases h2
      rename_i hl
      refine ⟨G, F, env, os, env', I, h1, fun vs F1 H1 S1 I1 r1 => ?_⟩
      have ra := HoldsA.vals r1 g
      have hlen := ra.length
      refine ⟨Nat.le_of_lt (small1000 (by omega)), fun p hp => ?_⟩
      have s := same_upd (o := .tup vs) hp
      refine q _ F1 _ (S1.trans (.same s)) (I1.same s) ?_
      simp only [Rep]
      exact ⟨p, vs, rfl, .of upd_same, RepA.kp (Same.kp s) ra⟩
    · cases h2
theorem ed_lst (h : AoD X ks ps es ma) : ED X ks ps (.List es pos) (mLst ma) := PE.imp (pe_lst h) fun σ H Q q => by
  obtain ⟨G, F, env, d, env', I, hm, q⟩ := q
  obtain ⟨os, e1, h1, h2⟩ := bnd_some hm
  obtain ⟨h2, rfl⟩ := lft_some h2
  split at h2
  · cases h2
  · rename_i ds g
    split at h2
    · cases h2
      rename_i hl
      refine ⟨G, F, env, os, env', I, h1, fun vs F1 H1 S1 I1 r1 => ?_⟩
      have ra := HoldsA.vals r1 g
      have hlen := ra.length
      refine ⟨Nat.le_of_lt (small1000 (by omega)), fun p hp => ?_⟩
      have s := same_upd (o := .lst vs) hp
      refine q _ F1 _ (S1.trans (.same s)) (I1.same s) ?_
      simp only [Rep]
      exact ⟨p, vs, rfl, LstAt.rd (.inl upd_same) (OO_new I1 hp), RepA.kp (Same.kp s) ra⟩
    · cases h2
end
end DL

/-! DLC: operators and built-ins over data. -/
namespace DL
open PySem PySem.Spec PyProof.Rows L2
section
variable {X : Cx}

/-! ### numbers -/
def smallI (i : Int) : Bool := decide (-(2 ^ 64) < i) && decide (i < 2 ^ 64)
def mulOk (i j : Int) : Bool := smallI i || smallI j || decide (i.natAbs.log2 + j.natAbs.log2 < 1000000)
theorem mulOk_ok {i j : Int} (h : mulOk i j = true) : IntMulOk i j := by
  unfold mulOk smallI at h
  simp only [Bool.or_eq_true, Bool.and_eq_true, decide_eq_true_eq] at h
  rcases h with (h | h) | h
  · exact CMul.ok (.inl h)
  · exact CMul.ok (.inr h)
  · exact CMulW.ok h
def addD : PyData → PyData → Option PyData
  | .int i, .int j => some (.int (i + j))
  | .str a, .str b => if a.length + b.length ≤ sizeLine then some (.str (a ++ b)) else none
  | .tuple xs, .tuple ys => if xs.length + ys.length ≤ sizeLine then some (.tuple (xs ++ ys)) else none
  | .list xs, .list ys => if xs.length + ys.length ≤ sizeLine then some (.list (xs ++ ys)) else none
  | _, _ => none
def subD : PyData → PyData → Option PyData
  | .int i, .int j => some (.int (i - j))
  | _, _ => none
def mulD : PyData → PyData → Option PyData
  | .int i, .int j => if mulOk i j then some (.int (i * j)) else none
  | _, _ => none
def fdivD : PyData → PyData → Option PyData
  | .int i, .int j => if j ≠ 0 ∧ j.natAbs < 1073741824 then some (.int (i.fdiv j)) else none
  | _, _ => none
def modD : PyData → PyData → Option PyData
  | .int i, .int j => if j ≠ 0 then some (.int (i.fmod j)) else none
  | _, _ => none
def negD : PyData → Option PyData
  | .int i => some (.int (-i))
  | _ => none

theorem rep_int {K : PySem.W.Frag} {H : Hp} {O : Addr → Prop} {i : Int} : Rep K H O (.int i) (.int i) := by simp only [Rep]
theorem rep_bl {K : PySem.W.Frag} {H : Hp} {O : Addr → Prop} {i : Bool} : Rep K H O (.bool i) (.bl i) := by simp only [Rep]
theorem rep_str {K : PySem.W.Frag} {H : Hp} {O : Addr → Prop} {i : Str} : Rep K H O (.str i) (.str i) := by simp only [Rep]
theorem rep_non {K : PySem.W.Frag} {H : Hp} {O : Addr → Prop} : Rep K H O .none .non := by simp only [Rep]

theorem o_ints {f : Value → Value → Sem Value} {C : Int → Int → Prop} {g : Int → Int → V} (h : OpR X f (rI C g)) {G : PyData → PyData → Option PyData}
    (hG : ∀ d e r, G d e = some r → ∃ i j, d = .int i ∧ e = .int j ∧ C i j ∧ ∀ K H O, Rep K H O r (g i j)) : Op2 X f G := by
  intro pins s σ H x y v u Q I rx ry q
  obtain ⟨O, dx, dy, d, fr, r1, r2, e, q⟩ := q
  obtain ⟨i, j, rfl, rfl, c, hr⟩ := hG _ _ _ e
  simp only [Rep] at r1 r2
  subst r1; subst r2
  exact h pins s σ H _ _ v u Q I rx ry ⟨i, j, rfl, rfl, c, q _ H (.refl H) (hr _ _ _)⟩
theorem rI_of {f : Value → Value → Sem Value} {g : Int → Int → V} (h : OpR X f (rI0 g)) : OpR X f (rI (fun _ _ => True) g) := by
  intro pins s σ H x y v u Q I rx ry q
  obtain ⟨i, j, e1, e2, _, q⟩ := q
  exact h pins s σ H x y v u Q I rx ry ⟨i, j, e1, e2, q⟩
theorem op_mulA : OpR X (binaryOp .Mult) (rI (fun i j => mulOk i j = true) fun i j => .int (i * j)) := opI fun _ _ _ _ _ _ _ hc q => mul_int q (mulOk_ok hc)
theorem iop_mulA : OpR X (inplaceOp .Mult) (rI (fun i j => mulOk i j = true) fun i j => .int (i * j)) := opI fun _ _ _ _ _ _ _ hc q => imul_int q (mulOk_ok hc)

theorem subD_some {d e r : PyData} (h : subD d e = some r) : ∃ i j, d = .int i ∧ e = .int j ∧ True ∧ ∀ K H O, Rep K H O r (.int (i - j)) := by
  unfold subD at h
  split at h
  · cases h; exact ⟨_, _, rfl, rfl, trivial, fun _ _ _ => rep_int⟩
  · cases h
theorem mulD_some {d e r : PyData} (h : mulD d e = some r) : ∃ i j, d = .int i ∧ e = .int j ∧ mulOk i j = true ∧ ∀ K H O, Rep K H O r (.int (i * j)) := by
  unfold mulD at h
  split at h
  · split at h
    · cases h; exact ⟨_, _, rfl, rfl, by assumption, fun _ _ _ => rep_int⟩
    · cases h
  · cases h
theorem fdivD_some {d e r : PyData} (h : fdivD d e = some r) : ∃ i j, d = .int i ∧ e = .int j ∧ CDivN i j ∧ ∀ K H O, Rep K H O r (.int (i.fdiv j)) := by
  unfold fdivD at h
  split at h
  · split at h
    · cases h; exact ⟨_, _, rfl, rfl, by assumption, fun _ _ _ => rep_int⟩
    · cases h
  · cases h
theorem modD_some {d e r : PyData} (h : modD d e = some r) : ∃ i j, d = .int i ∧ e = .int j ∧ j ≠ 0 ∧ ∀ K H O, Rep K H O r (.int (i.fmod j)) := by
  unfold modD at h
  split at h
  · split at h
    · cases h; exact ⟨_, _, rfl, rfl, by assumption, fun _ _ _ => rep_int⟩
    · cases h
  · cases h
theorem o_sub : Op2 X (binaryOp .Sub) subD := o_ints (rI_of op_sub) fun _ _ _ => subD_some
theorem o_mul : Op2 X (binaryOp .Mult) mulD := o_ints op_mulA fun _ _ _ => mulD_some
theorem o_fdiv : Op2 X (binaryOp .FloorDiv) fdivD := o_ints op_fdivN fun _ _ _ => fdivD_some
theorem o_mod : Op2 X (binaryOp .Mod) modD := o_ints op_modN fun _ _ _ => modD_some
theorem i_sub : Op2 X (inplaceOp .Sub) subD := o_ints (rI_of iop_sub) fun _ _ _ => subD_some
theorem i_mul : Op2 X (inplaceOp .Mult) mulD := o_ints iop_mulA fun _ _ _ => mulD_some
def iaddD : PyData → PyData → Option PyData
  | .int i, .int j => some (.int (i + j))
  | _, _ => none
theorem i_add : Op2 X (inplaceOp .Add) iaddD := o_ints (rI_of iop_add) fun d e r h => by
  unfold iaddD at h
  split at h
  · cases h; exact ⟨_, _, rfl, rfl, trivial, fun _ _ _ => rep_int⟩
  · cases h
theorem o_neg : Op1 X (unaryOp .USub) negD := by
  intro pins s σ H x v Q I rx q
  obtain ⟨O, dx, d, fr, r1, e, q⟩ := q
  unfold negD at e
  split at e
  · cases e
    simp only [Rep] at r1
    subst r1
    exact un_neg pins s σ H _ v Q I rx ⟨_, rfl, q _ H (.refl H) rep_int⟩
  · cases e

theorem cat_listS {pins : List (Addr × Obj)} {s : Shared} {σ : L2.St} {H : Hp} {l b : Addr} {xs zs : List V} {Q : VK} (I : Inv X pins σ H s) (h1 : SqL X.K H l xs) (h2 : SqL X.K H b zs) (hz : xs.length + zs.length ≤ sizeLine)
    (q : ∀ p, H p = none → Q (.ref p) (upd H p (.lst (xs ++ zs)))) : wpAny (model X.prog X.w) X.A (binaryOp .Add (.ref l) (.ref b)) (EP X pins σ Q) X.xe s := by
  obtain ⟨its, r, ⟨⟨cls, dd, data, sl⟩, n, ho, hc, hdn, hdt⟩, hl⟩ := I.list h1
  obtain ⟨its2, r2, ⟨⟨cls2, dd2, data2, sl2⟩, n2, ho2, hc2, hdn2, hdt2⟩, hl2⟩ := I.list h2
  simp only at hc hdn hdt hc2 hdn2 hdt2
  subst hc hdn hdt hc2 hdn2 hdt2
  have l1 := r.length
  have l2 := r2.length
  have ea : its.toArray ++ its2.toArray = (its ++ its2).toArray := by simp
  refine concat_meets ⟨_, ho, rfl⟩ ⟨_, ho2, rfl⟩ noFill_list_add seq_list_add PySem.F.slot_list_add PySem.F.entry_list_add (PySem.F.args_list_add_2 _ _) (list_addW l b its.toArray its2.toArray n n2 _ _ sl sl2 (by rw [List.size_toArray, List.size_toArray]; omega)) ⟨ho, ho2, ?_⟩
  rw [ea]
  exact ⟨.ref _, _, I.lnew (t' := s.toks) (r.append r2) (by rw [List.length_append]; omega), rfl, q _ I.fresh⟩

theorem o_add : Op2 X (binaryOp .Add) addD := by
  intro pins s σ H x y v u Q I rx ry q
  obtain ⟨O, dx, dy, d, fr, r1, r2, e, q⟩ := q
  unfold addD at e
  split at e
  · cases e
    simp only [Rep] at r1 r2
    subst r1; subst r2
    exact op_add pins s σ H _ _ v u Q I rx ry ⟨_, _, rfl, rfl, q _ H (.refl H) rep_int⟩
  · split at e
    · cases e
      rename_i hz
      simp only [Rep] at r1 r2
      subst r1; subst r2
      exact op_add_str pins s σ H _ _ v u Q I rx ry ⟨_, _, rfl, rfl, hz, q _ H (.refl H) rep_str⟩
    · cases e
  · split at e
    · cases e
      rename_i xs ys hz
      simp only [Rep] at r1 r2
      obtain ⟨a, vs, rfl, t1, a1⟩ := r1
      obtain ⟨b, ws, rfl, t2, a2⟩ := r2
      have l1 := a1.length
      have l2 := a2.length
      refine op_catA pins s σ H _ _ v u Q I rx ry ⟨a, b, vs, ws, rfl, rfl, t1.sq, t2.sq, by omega, fun z => ?_, fun z z2 => ?_, fun z z2 p hp => ?_⟩
      · subst z
        have : xs = [] := List.eq_nil_of_length_eq_zero l1
        subst this
        refine q _ H (.refl H) ?_
        simp only [Rep]
        exact ⟨b, ws, rfl, t2, a2⟩
      · subst z2
        have : ys = [] := List.eq_nil_of_length_eq_zero l2
        subst this
        refine q _ H (.refl H) ?_
        rw [List.append_nil]
        simp only [Rep]
        exact ⟨a, vs, rfl, t1, a1⟩
      · have sm := same_upd (o := .tup (vs ++ ws)) hp
        refine q _ _ sm ?_
        simp only [Rep]
        exact ⟨p, _, rfl, .of upd_same, (RepA.kp (Same.kp sm) a1).append (RepA.kp (Same.kp sm) a2)⟩
    · cases e
  · split at e
    · cases e
      rename_i xs ys hz
      simp only [Rep] at r1 r2
      obtain ⟨a, vs, rfl, t1, a1⟩ := r1
      obtain ⟨b, ws, rfl, t2, a2⟩ := r2
      have l1 := a1.length
      have l2 := a2.length
      cases rx
      cases ry
      refine cat_listS I t1.sq t2.sq (by omega) fun p hp => ?_
      have sm := same_upd (o := .lst (vs ++ ws)) hp
      refine q _ _ sm ?_
      simp only [Rep]
      exact ⟨p, _, rfl, LstAt.rd (.inl upd_same) (fr p hp), (RepA.kp (Same.kp sm) a1).append (RepA.kp (Same.kp sm) a2)⟩
    · cases e
  · cases e

/-! ### comparisons -/
mutual
theorem Rep.dp {K : PySem.W.Frag} {H : Hp} {O : Addr → Prop} : ∀ {d : PyData} {v : V}, d.canLay0 = true → Rep K H O d v → Dp K H v d
  | .none, v, _, h => by simp only [Rep] at h; subst h; exact .non
  | .bool b, v, _, h => by simp only [Rep] at h; subst h; exact .bl b
  | .int i, v, _, h => by simp only [Rep] at h; subst h; exact .int i
  | .str x, v, _, h => by simp only [Rep] at h; subst h; exact .str x
  | .list ds, v, c, h => by
    simp only [Rep] at h
    simp only [PyData.canLay0] at c
    obtain ⟨a, xs, rfl, h1, h2⟩ := h
    exact .lst h1.sq (RepA.dp c h2)
  | .tuple ds, v, c, h => by
    simp only [Rep] at h
    simp only [PyData.canLay0] at c
    obtain ⟨a, xs, rfl, h1, h2⟩ := h
    exact .tup h1.sq (RepA.dp c h2)
  | .dict kvs, v, c, h => by simp only [PyData.canLay0] at c; cases c
theorem RepA.dp {K : PySem.W.Frag} {H : Hp} {O : Addr → Prop} : ∀ {ds : List PyData} {xs : List V}, PyData.canLayAll0 ds = true → RepA K H O ds xs → DpAll K H xs ds
  | [], xs, _, h => by simp only [RepA] at h; subst h; exact .nil
  | d :: ds, xs, c, h => by
    simp only [RepA] at h
    simp only [PyData.canLayAll0, Bool.and_eq_true] at c
    obtain ⟨x, r, rfl, h1, h2⟩ := h
    exact .cons (Rep.dp c.1 h1) (RepA.dp c.2 h2)
end
def ltD : PyData → PyData → Option PyData
  | .int i, .int j => some (.bool (decide (i < j)))
  | _, _ => none
def leD : PyData → PyData → Option PyData
  | .int i, .int j => some (.bool (decide (i ≤ j)))
  | _, _ => none
def gtD : PyData → PyData → Option PyData
  | .int i, .int j => some (.bool (decide (j < i)))
  | _, _ => none
def geD : PyData → PyData → Option PyData
  | .int i, .int j => some (.bool (decide (j ≤ i)))
  | _, _ => none
theorem o_lt : Op2 X (compareOp .Lt) ltD := o_ints (rI_of op_lt) fun d e r h => by
  unfold ltD at h
  split at h
  · cases h; exact ⟨_, _, rfl, rfl, trivial, fun _ _ _ => rep_bl⟩
  · cases h
theorem o_le : Op2 X (compareOp .LtE) leD := o_ints (rI_of op_le) fun d e r h => by
  unfold leD at h
  split at h
  · cases h; exact ⟨_, _, rfl, rfl, trivial, fun _ _ _ => rep_bl⟩
  · cases h
theorem o_gt : Op2 X (compareOp .Gt) gtD := o_ints (rI_of op_gt) fun d e r h => by
  unfold gtD at h
  split at h
  · cases h; exact ⟨_, _, rfl, rfl, trivial, fun _ _ _ => rep_bl⟩
  · cases h
theorem o_ge : Op2 X (compareOp .GtE) geD := o_ints (rI_of op_ge) fun d e r h => by
  unfold geD at h
  split at h
  · cases h; exact ⟨_, _, rfl, rfl, trivial, fun _ _ _ => rep_bl⟩
  · cases h

def eqB (d e : PyData) : Option Bool := match d, e with
  | .str x, .str y => some (decide (x = y))
  | d, e => if SeqAt.shaped d && SeqAt.shaped e then some (PyData.eqv d e) else none
def eqD (d e : PyData) : Option PyData := (eqB d e).map .bool
def neD (d e : PyData) : Option PyData := (eqB d e).map fun b => .bool (!b)
theorem eqB_some {d e : PyData} {b : Bool} (h : eqB d e = some b) : (∃ x y, d = .str x ∧ e = .str y ∧ b = decide (x = y)) ∨ (SeqAt.shaped d = true ∧ SeqAt.shaped e = true ∧ b = PyData.eqv d e) := by
  unfold eqB at h
  split at h
  · cases h; exact .inl ⟨_, _, rfl, rfl, rfl⟩
  · split at h
    · rename_i hs
      cases h
      rw [Bool.and_eq_true] at hs
      exact .inr ⟨hs.1, hs.2, rfl⟩
    · cases h
theorem o_eq (hu : X.A.units + 64 < cLine) : Op2 X (compareOp .Eq) eqD := by
  intro pins s σ H x y v u Q I rx ry q
  obtain ⟨O, dx, dy, d, fr, r1, r2, e, q⟩ := q
  unfold eqD at e
  cases hb : eqB dx dy with
  | none => rw [hb] at e; cases e
  | some b =>
    rw [hb] at e; cases e
    rcases eqB_some hb with ⟨a, c, rfl, rfl, rfl⟩ | ⟨h1, h2, rfl⟩
    · simp only [Rep] at r1 r2
      subst r1; subst r2
      refine op_eq pins s σ H _ _ v u Q I rx ry ⟨rfl, q _ H (.refl H) ?_⟩
      simp only [Rep, V.str.injEq]
    · exact op_eqD hu pins s σ H _ _ v u Q I rx ry ⟨dx, dy, r1.dp (SeqAt.canLay_of_shaped h1), r2.dp (SeqAt.canLay_of_shaped h2), h1, h2, q _ H (.refl H) rep_bl⟩
theorem o_ne (hu : X.A.units + 64 < cLine) : Op2 X (compareOp .NotEq) neD := by
  intro pins s σ H x y v u Q I rx ry q
  obtain ⟨O, dx, dy, d, fr, r1, r2, e, q⟩ := q
  unfold neD at e
  cases hb : eqB dx dy with
  | none => rw [hb] at e; cases e
  | some b =>
    rw [hb] at e; cases e
    rcases eqB_some hb with ⟨a, c, rfl, rfl, rfl⟩ | ⟨h1, h2, rfl⟩
    · simp only [Rep] at r1 r2
      subst r1; subst r2
      refine op_ne pins s σ H _ _ v u Q I rx ry ⟨rfl, q _ H (.refl H) ?_⟩
      simp only [Rep, V.str.injEq]
    · exact op_neD hu pins s σ H _ _ v u Q I rx ry ⟨dx, dy, r1.dp (SeqAt.canLay_of_shaped h1), r2.dp (SeqAt.canLay_of_shaped h2), h1, h2, q _ H (.refl H) rep_bl⟩
def itsOf : PyData → Option (List PyData)
  | .list ds => some ds
  | .tuple ds => some ds
  | _ => none
def inB (d e : PyData) : Option Bool := match itsOf e with
  | some ds => if SeqAt.shaped d && SeqAt.shaped e then some (ds.any fun z => PyData.eqv z d) else none
  | none => none
def inD (d e : PyData) : Option PyData := (inB d e).map .bool
def notInD (d e : PyData) : Option PyData := (inB d e).map fun b => .bool (!b)
theorem inB_some {d e : PyData} {b : Bool} (h : inB d e = some b) : ∃ ds, (e = .list ds ∨ e = .tuple ds) ∧ SeqAt.shaped d = true ∧ SeqAt.shaped e = true ∧ b = ds.any fun z => PyData.eqv z d := by
  unfold inB at h
  split at h
  · rename_i ds he
    split at h
    · rename_i hs
      cases h
      rw [Bool.and_eq_true] at hs
      refine ⟨ds, ?_, hs.1, hs.2, rfl⟩
      unfold itsOf at he
      split at he
      · cases he; exact .inl rfl
      · cases he; exact .inr rfl
      · cases he
    · cases h
  · cases h
theorem o_in (hu : X.A.units + 65 < cLine) : Op2 X (compareOp .In) inD := by
  intro pins s σ H x y v u Q I rx ry q
  obtain ⟨O, dx, dy, d, fr, r1, r2, e, q⟩ := q
  unfold inD at e
  cases hb : inB dx dy with
  | none => rw [hb] at e; cases e
  | some b =>
    rw [hb] at e; cases e
    obtain ⟨ds, he, h1, h2, rfl⟩ := inB_some hb
    obtain ⟨as, q1⟩ := Dp.reads I dx x v (r1.dp (SeqAt.canLay_of_shaped h1)) rx
    obtain ⟨bs, q2⟩ := Dp.reads I dy y u (r2.dp (SeqAt.canLay_of_shaped h2)) ry
    rcases he with rfl | rfl
    · exact SeqAt.in_list_reads q2 q1 (SeqAt.canLay_of_shaped h2) (SeqAt.canLay_of_shaped h1) (room_in_shaped h1 hu) ⟨.bl _, H, I, rfl, q _ H (.refl H) rep_bl⟩
    · exact SeqAt.in_tuple_reads q2 q1 (SeqAt.canLay_of_shaped h2) (SeqAt.canLay_of_shaped h1) (room_in_shaped h1 hu) ⟨.bl _, H, I, rfl, q _ H (.refl H) rep_bl⟩
theorem o_notIn (hu : X.A.units + 65 < cLine) : Op2 X (compareOp .NotIn) notInD := by
  intro pins s σ H x y v u Q I rx ry q
  obtain ⟨O, dx, dy, d, fr, r1, r2, e, q⟩ := q
  unfold notInD at e
  cases hb : inB dx dy with
  | none => rw [hb] at e; cases e
  | some b =>
    rw [hb] at e; cases e
    obtain ⟨ds, he, h1, h2, rfl⟩ := inB_some hb
    obtain ⟨as, q1⟩ := Dp.reads I dx x v (r1.dp (SeqAt.canLay_of_shaped h1)) rx
    obtain ⟨bs, q2⟩ := Dp.reads I dy y u (r2.dp (SeqAt.canLay_of_shaped h2)) ry
    rcases he with rfl | rfl
    · exact SeqAt.notIn_list_reads q2 q1 (SeqAt.canLay_of_shaped h2) (SeqAt.canLay_of_shaped h1) (room_in_shaped h1 hu) ⟨.bl _, H, I, rfl, q _ H (.refl H) rep_bl⟩
    · exact SeqAt.notIn_tuple_reads q2 q1 (SeqAt.canLay_of_shaped h2) (SeqAt.canLay_of_shaped h1) (room_in_shaped h1 hu) ⟨.bl _, H, I, rfl, q _ H (.refl H) rep_bl⟩
def isNon : PyData → Bool
  | .none => true
  | _ => false
/-- x is None, x is True -/
def isD : PyData → PyData → Option PyData
  | d, .none => some (.bool (isNon d))
  | .bool a, .bool b => some (.bool (decide (a = b)))
  | _, _ => none
def isNotD : PyData → PyData → Option PyData
  | d, .none => some (.bool (!isNon d))
  | .bool a, .bool b => some (.bool (!decide (a = b)))
  | _, _ => none
theorem rep_isnon {K : PySem.W.Frag} {H : Hp} {O : Addr → Prop} {d : PyData} {v : V} (h : Rep K H O d v) : decide (v = .non) = isNon d := by
  cases d <;> simp only [Rep] at h
  case none => subst h; rfl
  case bool b => subst h; rfl
  case int b => subst h; rfl
  case str b => subst h; rfl
  case list b => obtain ⟨a, xs, rfl, _⟩ := h; rfl
  case tuple b => obtain ⟨a, xs, rfl, _⟩ := h; rfl
  case dict b => obtain ⟨a, xs, rfl, _⟩ := h; rfl
theorem o_is : Op2 X (compareOp .Is) isD := by
  intro pins s σ H x y v u Q I rx ry q
  obtain ⟨O, dx, dy, d, fr, r1, r2, e, q⟩ := q
  unfold isD at e
  split at e
  · cases e
    have r2' : y = .non := by simpa only [Rep] using r2
    subst r2'
    refine op_isN pins s σ H _ _ v u Q I rx ry ⟨rfl, q _ H (.refl H) ?_⟩
    rw [rep_isnon r1]
    exact rep_bl
  · cases e
    simp only [Rep] at r1 r2
    subst r1; subst r2
    exact op_isBl pins s σ H _ _ v u Q I rx ry ⟨_, _, rfl, rfl, q _ H (.refl H) rep_bl⟩
  · cases e
theorem o_isNot : Op2 X (compareOp .IsNot) isNotD := by
  intro pins s σ H x y v u Q I rx ry q
  obtain ⟨O, dx, dy, d, fr, r1, r2, e, q⟩ := q
  unfold isNotD at e
  split at e
  · cases e
    have r2' : y = .non := by simpa only [Rep] using r2
    subst r2'
    refine op_notN pins s σ H _ _ v u Q I rx ry ⟨rfl, q _ H (.refl H) ?_⟩
    rw [rep_isnon r1]
    exact rep_bl
  · cases e
    simp only [Rep] at r1 r2
    subst r1; subst r2
    exact op_notBl pins s σ H _ _ v u Q I rx ry ⟨_, _, rfl, rfl, q _ H (.refl H) rep_bl⟩
  · cases e

/-! ### built-in functions -/
def lenD : List PyData → Option PyData
  | [.list ds] => some (.int ds.length)
  | [.tuple ds] => some (.int ds.length)
  | _ => none
theorem repA1 {K : PySem.W.Frag} {H : Hp} {O : Addr → Prop} {d : PyData} {xs : List V} (h : RepA K H O [d] xs) : ∃ x, xs = [x] ∧ Rep K H O d x := by
  simp only [RepA] at h
  obtain ⟨x, r, rfl, h1, rfl⟩ := h
  exact ⟨x, rfl, h1⟩
theorem repA2 {K : PySem.W.Frag} {H : Hp} {O : Addr → Prop} {d e : PyData} {xs : List V} (h : RepA K H O [d, e] xs) : ∃ x y, xs = [x, y] ∧ Rep K H O d x ∧ Rep K H O e y := by
  simp only [RepA] at h
  obtain ⟨x, r, rfl, h1, y, r2, rfl, h2, rfl⟩ := h
  exact ⟨x, y, rfl, h1, h2⟩
theorem f_len : FnV X (.builtin "len") lenD := by
  intro pins s σ H xs us Q I r q
  obtain ⟨O, ds, d, fr, r1, e, q⟩ := q
  unfold lenD at e
  split at e
  · cases e
    obtain ⟨x, rfl, r2⟩ := repA1 r1
    simp only [Rep] at r2
    obtain ⟨a, vs, rfl, t1, a1⟩ := r2
    refine call_len_seq pins s σ H _ us Q I r ⟨a, vs, rfl, .inl t1.sq, q _ H (.refl H) ?_⟩
    rw [a1.length]
    exact rep_int
  · cases e
    obtain ⟨x, rfl, r2⟩ := repA1 r1
    simp only [Rep] at r2
    obtain ⟨a, vs, rfl, t1, a1⟩ := r2
    refine call_len_seq pins s σ H _ us Q I r ⟨a, vs, rfl, .inr t1.sq, q _ H (.refl H) ?_⟩
    rw [a1.length]
    exact rep_int
  · cases e
def absD : List PyData → Option PyData
  | [.int i] => some (.int (if i < 0 then -i else i))
  | _ => none
theorem f_abs : FnV X (.builtin "abs") absD := by
  intro pins s σ H xs us Q I r q
  obtain ⟨O, ds, d, fr, r1, e, q⟩ := q
  unfold absD at e
  split at e
  · cases e
    obtain ⟨x, rfl, r2⟩ := repA1 r1
    simp only [Rep] at r2
    subst r2
    exact call_abs pins s σ H _ us Q I r ⟨_, rfl, q _ H (.refl H) rep_int⟩
  · cases e
def max2D : List PyData → Option PyData
  | [.int i, .int j] => some (.int (if j > i then j else i))
  | _ => none
def min2D : List PyData → Option PyData
  | [.int i, .int j] => some (.int (if j < i then j else i))
  | _ => none
theorem f_max2 (hc : X.calm = true) : FnV X (.builtin "max") max2D := by
  intro pins s σ H xs us Q I r q
  obtain ⟨O, ds, d, fr, r1, e, q⟩ := q
  unfold max2D at e
  split at e
  · cases e
    obtain ⟨x, y, rfl, r2, r3⟩ := repA2 r1
    simp only [Rep] at r2 r3
    subst r2; subst r3
    exact call_max2 hc pins s σ H _ us Q I r ⟨_, _, rfl, q _ H (.refl H) rep_int⟩
  · cases e
theorem f_min2 (hc : X.calm = true) : FnV X (.builtin "min") min2D := by
  intro pins s σ H xs us Q I r q
  obtain ⟨O, ds, d, fr, r1, e, q⟩ := q
  unfold min2D at e
  split at e
  · cases e
    obtain ⟨x, y, rfl, r2, r3⟩ := repA2 r1
    simp only [Rep] at r2 r3
    subst r2; subst r3
    exact call_min2 hc pins s σ H _ us Q I r ⟨_, _, rfl, q _ H (.refl H) rep_int⟩
  · cases e
def intD : List PyData → Option PyData
  | [.int i] => some (.int i)
  | [.bool b] => some (.int (if b then 1 else 0))
  | _ => none
theorem f_int : FnV X (.type "int") intD := by
  intro pins s σ H xs us Q I r q
  obtain ⟨O, ds, d, fr, r1, e, q⟩ := q
  unfold intD at e
  split at e
  · cases e
    obtain ⟨x, rfl, r2⟩ := repA1 r1
    simp only [Rep] at r2
    subst r2
    exact call_int1 pins s σ H _ us Q I r (.inl ⟨_, rfl, q _ H (.refl H) rep_int⟩)
  · cases e
    obtain ⟨x, rfl, r2⟩ := repA1 r1
    simp only [Rep] at r2
    subst r2
    exact call_int1 pins s σ H _ us Q I r (.inr ⟨_, rfl, q _ H (.refl H) rep_int⟩)
  · cases e
def tupleD : List PyData → Option PyData
  | [.list ds] => some (.tuple ds)
  | [.tuple ds] => some (.tuple ds)
  | _ => none
theorem f_tuple : FnV X (.type "tuple") tupleD := by
  intro pins s σ H xs us Q I r q
  obtain ⟨O, ds, d, fr, r1, e, q⟩ := q
  unfold tupleD at e
  split at e
  · cases e
    obtain ⟨x, rfl, r2⟩ := repA1 r1
    simp only [Rep] at r2
    obtain ⟨a, vs, rfl, t1, a1⟩ := r2
    refine call_tuple_of pins s σ H _ us Q I r ⟨a, vs, rfl, .inl ⟨t1.sq, fun p hp => ?_⟩⟩
    have sm := same_upd (o := .tup vs) hp
    refine q _ _ sm ?_
    simp only [Rep]
    exact ⟨p, vs, rfl, .of upd_same, RepA.kp (Same.kp sm) a1⟩
  · cases e
    obtain ⟨x, rfl, r2⟩ := repA1 r1
    have r2' := r2
    simp only [Rep] at r2
    obtain ⟨a, vs, rfl, t1, a1⟩ := r2
    exact call_tuple_of pins s σ H _ us Q I r ⟨a, vs, rfl, .inr ⟨t1.sq, q _ H (.refl H) r2'⟩⟩
  · cases e
def listD : List PyData → Option PyData
  | [.list ds] => some (.list ds)
  | [.tuple ds] => some (.list ds)
  | _ => none
theorem f_list : FnV X (.type "list") listD := by
  intro pins s σ H xs us Q I r q
  obtain ⟨O, ds, d, fr, r1, e, q⟩ := q
  have fin : ∀ {a : Addr} {vs : List V} {ds : List PyData}, RepA X.K H O ds vs → d = .list ds → ∀ p, H p = none → Q (.ref p) (upd H p (.lst vs)) := by
    rintro a vs ds a1 rfl p hp
    have sm := same_upd (o := .lst vs) hp
    refine q _ _ sm ?_
    simp only [Rep]
    exact ⟨p, vs, rfl, LstAt.rd (.inl upd_same) (fr p hp), RepA.kp (Same.kp sm) a1⟩
  unfold listD at e
  split at e
  · cases e
    obtain ⟨x, rfl, r2⟩ := repA1 r1
    simp only [Rep] at r2
    obtain ⟨a, vs, rfl, t1, a1⟩ := r2
    exact call_list_of pins s σ H _ us Q I r ⟨a, vs, rfl, .inl t1.sq, fin (a := a) a1 rfl⟩
  · cases e
    obtain ⟨x, rfl, r2⟩ := repA1 r1
    simp only [Rep] at r2
    obtain ⟨a, vs, rfl, t1, a1⟩ := r2
    exact call_list_of pins s σ H _ us Q I r ⟨a, vs, rfl, .inr t1.sq, fin (a := a) a1 rfl⟩
  · cases e
def intsOf : List PyData → Option (List Int)
  | [] => some []
  | .int i :: r => match intsOf r with
    | some ns => some (i :: ns)
    | none => none
  | _ :: _ => none
def boolsOf : List PyData → Option (List Bool)
  | [] => some []
  | .bool i :: r => match boolsOf r with
    | some ns => some (i :: ns)
    | none => none
  | _ :: _ => none
theorem intsOf_some : ∀ {ds : List PyData} {ns : List Int}, intsOf ds = some ns → ds = ns.map .int
  | [], ns, h => by cases h; rfl
  | .int i :: r, ns, h => by
    unfold intsOf at h
    split at h
    · cases h; rename_i ms hm; rw [intsOf_some hm]; rfl
    · cases h
  | .none :: _, _, h => by cases h
  | .bool _ :: _, _, h => by cases h
  | .str _ :: _, _, h => by cases h
  | .list _ :: _, _, h => by cases h
  | .tuple _ :: _, _, h => by cases h
  | .dict _ :: _, _, h => by cases h
theorem boolsOf_some : ∀ {ds : List PyData} {ns : List Bool}, boolsOf ds = some ns → ds = ns.map .bool
  | [], ns, h => by cases h; rfl
  | .bool i :: r, ns, h => by
    unfold boolsOf at h
    split at h
    · cases h; rename_i ms hm; rw [boolsOf_some hm]; rfl
    · cases h
  | .none :: _, _, h => by cases h
  | .int _ :: _, _, h => by cases h
  | .str _ :: _, _, h => by cases h
  | .list _ :: _, _, h => by cases h
  | .tuple _ :: _, _, h => by cases h
  | .dict _ :: _, _, h => by cases h
@[simp] theorem intsOf_map (ns : List Int) : intsOf (ns.map .int) = some ns := by
  induction ns with
  | nil => rfl
  | cons n r ih => rw [List.map_cons, intsOf, ih]
@[simp] theorem boolsOf_map (ns : List Bool) : boolsOf (ns.map .bool) = some ns := by
  induction ns with
  | nil => rfl
  | cons n r ih => rw [List.map_cons, boolsOf, ih]
theorem repA_ints {K : PySem.W.Frag} {H : Hp} {O : Addr → Prop} : ∀ {ns : List Int} {xs : List V}, RepA K H O (ns.map .int) xs → xs = ns.map V.int
  | [], xs, h => by simpa only [List.map_nil, RepA] using h
  | n :: r, xs, h => by
    simp only [List.map_cons, RepA] at h
    obtain ⟨x, t, rfl, h1, h2⟩ := h
    simp only [Rep] at h1
    subst h1
    rw [repA_ints h2]
    rfl
theorem repA_bools {K : PySem.W.Frag} {H : Hp} {O : Addr → Prop} : ∀ {ns : List Bool} {xs : List V}, RepA K H O (ns.map .bool) xs → xs = ns.map V.bl
  | [], xs, h => by simpa only [List.map_nil, RepA] using h
  | n :: r, xs, h => by
    simp only [List.map_cons, RepA] at h
    obtain ⟨x, t, rfl, h1, h2⟩ := h
    simp only [Rep] at h1
    subst h1
    rw [repA_bools h2]
    rfl
theorem repA_of_ints {K : PySem.W.Frag} {H : Hp} {O : Addr → Prop} (ns : List Int) : RepA K H O (ns.map .int) (ns.map V.int) := by
  induction ns with
  | nil => exact .nil
  | cons n r ih => exact .cons rep_int ih
def sumD : List PyData → Option PyData
  | [.list ds] => match intsOf ds with
    | some ns => some (.int ns.sum)
    | none => none
  | [.tuple ds] => match intsOf ds with
    | some ns => some (.int ns.sum)
    | none => none
  | _ => none
theorem sum_rawT {pins : List (Addr × Obj)} {s : Shared} {A : Around} {E : Value → Shared → Prop} {l : Addr} {its : List Value} {ns : List Int} {Q : Value → Shared → Prop} (hh : A.handled = none) (hl : s.heap.IsTuple l its.toArray) (hi : IntsAre its ns)
    (h : ∀ h' tk t', (∀ b o, s.heap.get? b = some o → h'.get? b = some o) → Q (.int ns.sum t') { s with heap := h', toks := tk }) : wpAny (model X.prog X.w) A (call (.builtin "sum") [.ref l]) Q E s := by
  obtain ⟨xs, e⟩ := hi.allInts.items
  have hn : numsOf (intItems xs).toList = ns := by rw [← e]; exact hi.numsOf
  rw [nums_intItems] at hn
  rw [e] at hl
  refine PySem.W.ktm_sumG hh hl fun h' tk t' hk => ?_
  have := h h' tk t' hk
  rw [preSum_eq, List.take_of_length_le (by simp), hn]; exact this
theorem f_sum (hc : X.calm = true) : FnV X (.builtin "sum") sumD := by
  intro pins s σ H xs us Q I r q
  obtain ⟨O, ds, d, fr, r1, e, q⟩ := q
  unfold sumD at e
  split at e
  · split at e
    · cases e
      rename_i hn
      obtain ⟨x, rfl, r2⟩ := repA1 r1
      simp only [Rep] at r2
      obtain ⟨a, vs, rfl, t1, a1⟩ := r2
      rw [intsOf_some hn] at a1
      obtain rfl := repA_ints a1
      exact cr_sum hc pins s σ H _ us Q I r ⟨a, _, rfl, t1.sq, q _ H (.refl H) rep_int⟩
    · cases e
  · split at e
    · cases e
      rename_i hn
      obtain ⟨x, rfl, r2⟩ := repA1 r1
      simp only [Rep] at r2
      obtain ⟨a, vs, rfl, t1, a1⟩ := r2
      rw [intsOf_some hn] at a1
      obtain rfl := repA_ints a1
      obtain ⟨its, rv, hl, _⟩ := I.tuple t1.sq
      rw [Vals.ref1 r]
      exact sum_rawT (pins := pins) (I.ok.hd hc) hl rv.ints fun h' tk t' hk => ⟨.int _, H, I.kept hk, ⟨_, rfl⟩, q _ H (.refl H) rep_int⟩
    · cases e
  · cases e
def allD : List PyData → Option PyData
  | [.list ds] => match boolsOf ds with
    | some ns => some (.bool (ns.all id))
    | none => none
  | _ => none
def anyD : List PyData → Option PyData
  | [.list ds] => match boolsOf ds with
    | some ns => some (.bool (ns.any id))
    | none => none
  | _ => none
theorem f_all (hc : X.calm = true) : FnV X (.builtin "all") allD := by
  intro pins s σ H xs us Q I r q
  obtain ⟨O, ds, d, fr, r1, e, q⟩ := q
  unfold allD at e
  split at e
  · split at e
    · cases e
      rename_i hn
      obtain ⟨x, rfl, r2⟩ := repA1 r1
      simp only [Rep] at r2
      obtain ⟨a, vs, rfl, t1, a1⟩ := r2
      rw [boolsOf_some hn] at a1
      obtain rfl := repA_bools a1
      exact cr_all hc pins s σ H _ us Q I r ⟨a, _, rfl, t1.sq, q _ H (.refl H) rep_bl⟩
    · cases e
  · cases e
def maxI : Int → List Int → Int
  | m, [] => m
  | m, n :: r => maxI (if m < n then n else m) r
def minI : Int → List Int → Int
  | m, [] => m
  | m, n :: r => minI (if n < m then n else m) r
theorem maxI_spec : ∀ (r : List Int) (m : Int), (maxI m r = m ∨ maxI m r ∈ r) ∧ m ≤ maxI m r ∧ ∀ y ∈ r, y ≤ maxI m r
  | [], m => ⟨.inl rfl, Int.le_refl _, fun _ h => nomatch h⟩
  | n :: r, m => by
    obtain ⟨h1, h2, h3⟩ := maxI_spec r (if m < n then n else m)
    have e0 : maxI m (n :: r) = maxI (if m < n then n else m) r := rfl
    rw [e0]
    generalize maxI (if m < n then n else m) r = z at *
    refine ⟨?_, ?_, fun y hy => ?_⟩
    · rcases h1 with h1 | h1
      · rw [h1]; split
        · exact .inr List.mem_cons_self
        · exact .inl rfl
      · exact .inr (List.mem_cons_of_mem _ h1)
    · split at h2 <;> omega
    · rcases List.mem_cons.mp hy with e | hy
      · subst e; split at h2 <;> omega
      · exact h3 y hy
theorem minI_spec : ∀ (r : List Int) (m : Int), (minI m r = m ∨ minI m r ∈ r) ∧ minI m r ≤ m ∧ ∀ y ∈ r, minI m r ≤ y
  | [], m => ⟨.inl rfl, Int.le_refl _, fun _ h => nomatch h⟩
  | n :: r, m => by
    obtain ⟨h1, h2, h3⟩ := minI_spec r (if n < m then n else m)
    have e0 : minI m (n :: r) = minI (if n < m then n else m) r := rfl
    rw [e0]
    generalize minI (if n < m then n else m) r = z at *
    refine ⟨?_, ?_, fun y hy => ?_⟩
    · rcases h1 with h1 | h1
      · rw [h1]; split
        · exact .inr List.mem_cons_self
        · exact .inl rfl
      · exact .inr (List.mem_cons_of_mem _ h1)
    · split at h2 <;> omega
    · rcases List.mem_cons.mp hy with e | hy
      · subst e; split at h2 <;> omega
      · exact h3 y hy
def maxLD : List PyData → Option PyData
  | [.list ds] => match intsOf ds with
    | some (n :: r) => some (.int (maxI n r))
    | _ => none
  | _ => none
def minLD : List PyData → Option PyData
  | [.list ds] => match intsOf ds with
    | some (n :: r) => some (.int (minI n r))
    | _ => none
  | _ => none
theorem f_maxL (hc : X.calm = true) : FnV X (.builtin "max") maxLD := by
  intro pins s σ H xs us Q I r q
  obtain ⟨O, ds, d, fr, r1, e, q⟩ := q
  unfold maxLD at e
  split at e
  · split at e
    · cases e
      rename_i n t hn
      obtain ⟨x, rfl, r2⟩ := repA1 r1
      simp only [Rep] at r2
      obtain ⟨a, vs, rfl, t1, a1⟩ := r2
      rw [intsOf_some hn] at a1
      obtain rfl := repA_ints a1
      refine cr_max hc pins s σ H _ us Q I r ⟨a, _, rfl, t1.sq, by simp, fun m hm hle => ?_⟩
      obtain ⟨h1, h2, h3⟩ := maxI_spec t n
      have e1 : maxI n t ≤ m := hle _ (by rcases h1 with h | h; rw [h]; exact List.mem_cons_self; exact List.mem_cons_of_mem _ h)
      have e2 : m ≤ maxI n t := by
        rcases List.mem_cons.mp hm with rfl | hm
        · exact h2
        · exact h3 m hm
      have : m = maxI n t := Int.le_antisymm e2 e1
      subst this
      exact q _ H (.refl H) rep_int
    · cases e
  · cases e
theorem f_minL (hc : X.calm = true) : FnV X (.builtin "min") minLD := by
  intro pins s σ H xs us Q I r q
  obtain ⟨O, ds, d, fr, r1, e, q⟩ := q
  unfold minLD at e
  split at e
  · split at e
    · cases e
      rename_i n t hn
      obtain ⟨x, rfl, r2⟩ := repA1 r1
      simp only [Rep] at r2
      obtain ⟨a, vs, rfl, t1, a1⟩ := r2
      rw [intsOf_some hn] at a1
      obtain rfl := repA_ints a1
      refine cr_min hc pins s σ H _ us Q I r ⟨a, _, rfl, t1.sq, by simp, fun m hm hle => ?_⟩
      obtain ⟨h1, h2, h3⟩ := minI_spec t n
      have e1 : m ≤ minI n t := hle _ (by rcases h1 with h | h; rw [h]; exact List.mem_cons_self; exact List.mem_cons_of_mem _ h)
      have e2 : minI n t ≤ m := by
        rcases List.mem_cons.mp hm with rfl | hm
        · exact h2
        · exact h3 m hm
      have : m = minI n t := Int.le_antisymm e1 e2
      subst this
      exact q _ H (.refl H) rep_int
    · cases e
  · cases e

/-! ### repr -/
mutual
/-- data that repr is served of: no dict but {} -/
def layD : PyData → Bool
  | .none | .bool _ | .int _ => true
  | .str _ => true
  | .list xs | .tuple xs => layA xs
  | .dict kvs => kvs.isEmpty
def layA : List PyData → Bool
  | [] => true
  | x :: xs => layD x && layA xs
end
mutual
def noL : PyData → Bool
  | .none | .bool _ | .int _ | .str _ => true
  | .list _ => false
  | .tuple xs => noLA xs
  | .dict _ => true
def noLA : List PyData → Bool
  | [] => true
  | x :: xs => noL x && noLA xs
end
section
variable {pins : List (Addr × Obj)} {σ : L2.St} {H : Hp} {s : Shared} {O : Addr → Prop}
mutual
theorem Rep.reads (I : Inv X pins σ H s) : ∀ {d : PyData} {v : V} {u : Value}, layD d = true → Rep X.K H O d v → RelV v u → ∃ as, Reads s.heap u d as ∧ (noL d = true → sysModules ∉ as)
  | .none, _, _, _, h, r => by
    simp only [Rep] at h
    subst h
    cases r
    exact ⟨_, Reads.none, fun _ z => nomatch z⟩
  | .bool b, _, _, _, h, r => by
    simp only [Rep] at h
    subst h
    cases r
    exact ⟨_, Reads.bool b, fun _ z => nomatch z⟩
  | .int i, _, _, _, h, r => by
    simp only [Rep] at h
    subst h
    obtain ⟨t, rfl⟩ := r
    exact ⟨_, Reads.int i t, fun _ z => nomatch z⟩
  | .str x, _, _, _, h, r => by
    simp only [Rep] at h
    subst h
    obtain ⟨t, rfl⟩ := r
    exact ⟨_, Reads.str x t, fun _ z => nomatch z⟩
  | .list ds, _, _, l, h, r => by
    simp only [Rep] at h
    simp only [layD] at l
    obtain ⟨a, xs, rfl, h1, h2⟩ := h
    cases r
    obtain ⟨its, rv, ⟨o, n, ho, hc, _, hd⟩, _⟩ := I.list (h1.sq (K := X.K))
    obtain ⟨as, hr, _⟩ := RepA.reads I l h2 rv
    exact ⟨_, Reads.list ho hc hd hr, fun z => by simp only [noL] at z; cases z⟩
  | .tuple ds, _, _, l, h, r => by
    simp only [Rep] at h
    simp only [layD] at l
    obtain ⟨a, xs, rfl, h1, h2⟩ := h
    cases r
    obtain ⟨its, rv, ⟨o, ho, hc, n, hd⟩, _⟩ := I.tuple h1.sq
    obtain ⟨as, hr, hn⟩ := RepA.reads I l h2 rv
    exact ⟨_, Reads.tuple ho hc hd hr, fun z => by simp only [noL] at z; exact hn z⟩
  | .dict kvs, _, _, l, h, r => by
    simp only [Rep] at h
    simp only [layD, List.isEmpty_iff] at l
    subst l
    obtain ⟨a, xs, rfl, _, h1, h2⟩ := h
    simp only [RepV] at h2
    subst h2
    cases r
    rcases h1 with ⟨l, h1, e1, e2⟩ | ⟨l, h1, e1, e2⟩
    · have : l = [] := by cases l with
        | nil => rfl
        | cons p r => simp at e2
      subst this
      obtain ⟨_, hy, vs, r', o, es, ep, ho, hx, hd, _, hp, _⟩ := dk_rd I.hok h1
      have hv : vs = [] := List.eq_nil_of_length_eq_zero (by have := KV.length r'; simpa using this.symm)
      subst hv
      have he : es.toList = [] := by
        have := hp.length
        exact List.eq_nil_of_length_eq_zero (by simpa using this)
      refine ⟨_, Reads.dict (kvs := []) ho hx.1 hd (by rw [he]; exact .nil) (by rw [he]; exact .nil), fun _ z => ?_⟩
      have z' : sysModules = a := by simpa using z
      rw [z'] at hy
      simp at hy
    · have : l = [] := by cases l with
        | nil => rfl
        | cons p r => simp at e2
      subst this
      obtain ⟨_, hy, vs, r', o, es, ep, ho, hx, hd, he, _⟩ := dt_rd I.hok h1
      have hv : vs = [] := List.eq_nil_of_length_eq_zero (by have := Paired.length r'; simpa using this.symm)
      subst hv
      have he : es.toList = [] := by simpa using he
      refine ⟨_, Reads.dict (kvs := []) ho hx.1 hd (by rw [he]; exact .nil) (by rw [he]; exact .nil), fun _ z => ?_⟩
      have z' : sysModules = a := by simpa using z
      rw [z'] at hy
      simp at hy
theorem RepA.reads (I : Inv X pins σ H s) : ∀ {ds : List PyData} {vs : List V} {us : List Value}, layA ds = true → RepA X.K H O ds vs → Vals vs us → ∃ as, ReadsAll s.heap us ds as ∧ (noLA ds = true → sysModules ∉ as)
  | [], _, _, _, h, r => by
    simp only [RepA] at h
    subst h
    cases r
    exact ⟨_, ReadsAll.nil, fun _ z => nomatch z⟩
  | d :: ds, _, _, l, h, r => by
    simp only [RepA] at h
    simp only [layA, Bool.and_eq_true] at l
    obtain ⟨x, t, rfl, h1, h2⟩ := h
    cases r with
    | cons r1 r2 =>
      obtain ⟨as, q1, n1⟩ := Rep.reads I l.1 h1 r1
      obtain ⟨bs, q2, n2⟩ := RepA.reads I l.2 h2 r2
      refine ⟨_, ReadsAll.cons q1 q2, fun z m => ?_⟩
      simp only [noLA, Bool.and_eq_true] at z
      rcases List.mem_append.mp m with m | m
      · exact n1 z.1 m
      · exact n2 z.2 m
end
end
def reprOk (d : PyData) : Bool := d.showable && layD d && (!d.hasDict || noL d) && decide (d.shown.length ≤ sizeLine) && decide (d.depth ≤ 60)
def reprD : List PyData → Option PyData
  | [d] => if reprOk d then some (.str d.shown) else none
  | _ => none
theorem f_repr (hg : X.A.guards = some []) (hu : X.A.units + 64 < cLine) : FnV X (.builtin "repr") reprD := by
  intro pins s σ H xs us Q I r q
  obtain ⟨O, ds, d, fr, r1, e, q⟩ := q
  unfold reprD at e
  split at e
  · rename_i dd
    split at e
    · cases e
      rename_i hb
      unfold reprOk at hb
      simp only [Bool.and_eq_true, Bool.or_eq_true, Bool.not_eq_true', decide_eq_true_eq] at hb
      obtain ⟨⟨⟨⟨h1, h2⟩, h5⟩, h3⟩, h4⟩ := hb
      obtain ⟨x, rfl, r2⟩ := repA1 r1
      obtain ⟨u, rfl, rx⟩ := vals1 r
      have fin : Q (.str dd.shown) H := q _ H (.refl H) rep_str
      obtain ⟨as, rd, hn⟩ := Rep.reads I h2 r2 rx
      have hsm : dd.hasDict = true → sysModules ∉ as := fun z => by
        rcases h5 with h5 | h5
        · rw [h5] at z; cases z
        · exact hn h5
      have big : ∀ {a : Addr}, u = .ref a → wpAny (model X.prog X.w) X.A (call (.builtin "repr") [u]) (EP X pins σ Q) X.xe s := fun {a} e => by
        subst e
        exact repr_of_reads' rd h1 hsm hg (by omega) (fun _ _ e => e) (fun h' u tk k => ⟨.str dd.shown, H, I.kept k, ⟨_, rfl⟩, fin⟩) h3
      cases dd with
      | none =>
        simp only [Rep] at r2
        subst r2
        cases rx
        simp only [PyData.shown] at fin
        exact PySem.P.repr_of_none ⟨.str "None", H, I.tok _, ⟨_, rfl⟩, fin⟩
      | bool b =>
        simp only [Rep] at r2
        subst r2
        cases rx
        simp only [PyData.shown] at fin
        exact PySem.P.repr_of_bool ⟨.str (if b then "True" else "False"), H, I.tok _, ⟨_, rfl⟩, fin⟩
      | int i =>
        simp only [Rep] at r2
        subst r2
        obtain ⟨t, rfl⟩ := rx
        simp only [PyData.shown] at fin
        exact PySem.P.repr_of_int (by simpa [PyData.showable] using h1) ⟨.str (toString i), H, I.tok _, ⟨_, rfl⟩, fin⟩
      | str z =>
        simp only [Rep] at r2
        subst r2
        obtain ⟨t, rfl⟩ := rx
        simp only [PyData.shown] at fin h3
        exact PySem.P.repr_of_str ⟨.str (reprText z), H, I.tok _, ⟨_, rfl⟩, fin⟩ h3
      | list ds =>
        simp only [Rep] at r2
        obtain ⟨a, vs, rfl, _⟩ := r2
        cases rx
        exact big rfl
      | tuple ds =>
        simp only [Rep] at r2
        obtain ⟨a, vs, rfl, _⟩ := r2
        cases rx
        exact big rfl
      | dict kvs =>
        simp only [Rep] at r2
        obtain ⟨a, vs, rfl, _⟩ := r2
        cases rx
        exact big rfl
    · cases e
  · cases e

/-! ### isinstance -/
def tyD : PyData → String
  | .none => "NoneType"
  | .bool _ => "bool"
  | .int _ => "int"
  | .str _ => "str"
  | .list _ => "list"
  | .tuple _ => "tuple"
  | .dict _ => "dict"
def isiT (t c : String) : Bool := t == c || (t == "bool" && c == "int")
theorem Rep.kit {pins : List (Addr × Obj)} {σ : L2.St} {H : Hp} {s : Shared} {O : Addr → Prop} {d : PyData} {v : V} {u : Value} (I : Inv X pins σ H s) (rx : RelV v u) (h : Rep X.K H O d v) :
    ∃ P : Heap → Prop, PySem.W.KitX X.K u (.type (tyD d)) P ∧ P s.heap ∧ ∀ id : String, u ≠ .builtin id := by
  have more : ∀ {t : Value} {q : Prop}, (∃ P : Heap → Prop, PySem.W.KitX X.K u t P ∧ P s.heap ∧ q) → (∀ id : String, u ≠ .builtin id) → ∃ P : Heap → Prop, PySem.W.KitX X.K u t P ∧ P s.heap ∧ ∀ id : String, u ≠ .builtin id := fun h n => by
    obtain ⟨P, h1, h2, _⟩ := h
    exact ⟨P, h1, h2, n⟩
  have ref : ∀ {a : Addr}, RelV (.ref a) u → ∀ id : String, u ≠ .builtin id := fun {a} r id z => by
    cases r
    cases z
  cases d with
  | none => simp only [Rep] at h; subst h; exact more (kit_of I rx (.base .non)) fun id z => by cases rx; cases z
  | bool b => simp only [Rep] at h; subst h; exact more (kit_of I rx (.base (.bl b))) fun id z => by cases rx; cases z
  | int i => simp only [Rep] at h; subst h; exact more (kit_of I rx (.base (.int i))) fun id z => by obtain ⟨t, rfl⟩ := rx; cases z
  | str x => simp only [Rep] at h; subst h; exact more (kit_of I rx (.base (.str x))) fun id z => by obtain ⟨t, rfl⟩ := rx; cases z
  | list ds =>
    simp only [Rep] at h
    obtain ⟨a, xs, rfl, ⟨h1 | ⟨o, h1⟩, _⟩ | ⟨o, its, n, h1, h2, _⟩, _⟩ := h
    · exact more (kit_of I rx (.base (.lst h1))) (ref rx)
    · exact more (kit_of I rx (.base (.frz h1))) (ref rx)
    · exact more (kit_of I rx (.kList h1 h2)) (ref rx)
  | tuple ds =>
    simp only [Rep] at h
    obtain ⟨a, xs, rfl, h0, _⟩ := h
    obtain (h1 | ⟨o, h1⟩) | ⟨o, its, n, h1, h2, _⟩ := h0.sq
    · exact more (kit_of I rx (.base (.tup h1))) (ref rx)
    · exact more (kit_of I rx (.fTuple h1)) (ref rx)
    · exact more (kit_of I rx (.kTuple h1 h2)) (ref rx)
  | dict kvs =>
    simp only [Rep] at h
    obtain ⟨a, xs, rfl, _, ⟨l, h1 | ⟨o, h1⟩, _⟩ | ⟨l, h1, _⟩, _⟩ := h
    · exact more (kit_of I rx (.base (.dK h1))) (ref rx)
    · exact more (kit_of I rx (.fDict h1)) (ref rx)
    · cases rx
      obtain ⟨_, _, xs, _, o, es, ep, ho, hx, _⟩ := dt_rd I.hok h1
      exact ⟨_, PySem.W.kitx_dict, ⟨o, ho, hx.1⟩, fun id z => nomatch z⟩
def isiOk (c : String) : Bool := ["int", "bool", "tuple", "list", "str", "dict"].contains c
theorem isi_kit (d : PyData) (c : String) (h : isiOk c = true) : kitB (tyD d) c = some (isiT (tyD d) c) := by
  unfold isiOk at h
  simp only [List.contains_cons, List.contains_nil, Bool.or_false, Bool.or_eq_true, beq_iff_eq] at h
  have all : ∀ t ∈ ["NoneType", "bool", "int", "str", "list", "tuple", "dict"], ∀ c ∈ ["int", "bool", "tuple", "list", "str", "dict"], kitB t c = some (isiT t c) := by decide +kernel
  refine all _ ?_ _ ?_
  · cases d <;> simp [tyD]
  · rcases h with h | h | h | h | h | h <;> simp [h]
/-- isinstance(e, T) -/
def mIsi (c : String) (m : M Opd) : M PyData := mUn (fun d => if isiOk c then some (.bool (isiT (tyD d) c)) else none) m
theorem ed_isi {ks : List Kd} {ps : List (Nat × V)} {e : Expr} {T x : Str} {c : String} {p p2 pos : Pos} {m : M Opd} (hx : x = "isinstance") (hg : Gl X x) (hm : X.mg x = none) (hgT : Gl X T) (hmT : X.mg T = none) (hvT : bootBuiltins T = some (.type c))
    (ha : RD X ks ps e m) (hnT : T ≠ "__name__" := by decide) (hdT : (T == ("__debug__" : Str)) = false := by decide)
    (he : starEach [e, .Name T p2] X.env = (false, eval e X.env) :: starEach [.Name T p2] X.env := by rfl) (hpl : (backTo pos (starEach [.Name T p2] X.env)).any (·.1) = false := by rfl)
    (he2 : starEach [.Name T p2] X.env = (false, eval (.Name T p2) X.env) :: starEach [] X.env := by rfl) : ED X ks ps (.Call (.Name x p) [e, .Name T p2] [] pos) (mIsi c m) := by
  subst hx
  have hc : CallR X (.builtin "isinstance") (fun xs H Q => ∃ O d v, xs = [v, .ty c] ∧ Rep X.K H O d v ∧ isiOk c = true ∧ Q (.bl (isiT (tyD d) c)) H) := by
    intro pins s σ H xs us Q I r h
    obtain ⟨O, d, v, rfl, hr, hk, q⟩ := h
    obtain ⟨u1, u2, rfl, r1, r2⟩ := vals2 r
    obtain rfl : u2 = Value.type c := r2
    obtain ⟨P, Z, pp, hx⟩ := Rep.kit I r1 hr
    exact PySem.W.kia_one Z I.kIn pp (kit_ty (isi_kit d c hk)) (hx _) fun tk => ⟨.bl (isiT (tyD d) c), H, I.tok tk, rfl, q⟩
  refine PE.imp (pe_callB hc hg hm (by decide +kernel) (pa_cons ha (pa_cons (pe_bltn (v := .ty c) hgT hmT hvT rfl hnT hdT) pa_nil he2) he) (by decide) (by decide) he hpl) fun σ H Q q => ?_
  obtain ⟨G, F, env, d, env', I, hm, q⟩ := q
  obtain ⟨ox, e1, h1, h2⟩ := bnd_some hm
  obtain ⟨rfl, dx, g1, g3, gi⟩ := rs1_some h2
  refine ⟨G, F, env, ox, env', I, h1, fun v F1 H1 S1 I1 r1 => ⟨_, dx, v, rfl, HoldsO.rep I1 r1 g1, ?_⟩⟩
  split at g3
  · rename_i hk
    cases g3
    exact ⟨hk, q _ F1 H1 S1 I1 rep_bl⟩
  · cases g3
end
end DL

/-! DLD: subscripts, slices; statements, loops, comprehensions. -/
namespace DL
open PySem PySem.Spec PyProof.Rows L2
section
variable {rk : Kd} {X : Cx} {ks : List Kd} {ps : List (Nat × V)} {a b c e o i : Expr} {es : List Expr} {pos pos' : Pos}

/-! ### subscripts -/
def itemD : PyData → PyData → Option PyData
  | .list ds, .int i => atI ds i
  | .tuple ds, .int i => atI ds i
  | .str z, .int i => if z.length ≤ sizeLine then (atI z.cps.toList i).map fun c => .str ⟨#[c]⟩ else none
  | _, _ => none
theorem RepA.at {K : PySem.W.Frag} {H : Hp} {O : Addr → Prop} {ds : List PyData} {xs : List V} {i : Int} {d : PyData} (h : RepA K H O ds xs) (e : atI ds i = some d) : ∃ x, atI xs i = some x ∧ Rep K H O d x := by
  unfold atI at e ⊢
  rw [← h.length]
  cases q : ixN ds.length i with
  | none => rw [q] at e; cases e
  | some j =>
    rw [q] at e
    exact h.get e
theorem ix_data : IxR X (fun x y H Q => ∃ O dx dy d, (∀ p, H p = none → ¬ O p) ∧ Rep X.K H O dx x ∧ Rep X.K H O dy y ∧ itemD dx dy = some d ∧ ∀ v H', Same H H' → Rep X.K H' O d v → Q v H') := by
  intro value slice pins s σ H x y v u Q I rx ry q hs
  obtain ⟨O, dx, dy, d, fr, r1, r2, e, q⟩ := q
  unfold itemD at e
  split at e
  · simp only [Rep] at r1 r2
    obtain ⟨p, vs, rfl, t1, a1⟩ := r1
    subst r2
    obtain ⟨w, hw, hr⟩ := a1.at e
    exact ix_list value slice pins s σ H _ _ v u Q I rx ry ⟨p, vs, _, w, rfl, rfl, t1.sq, hw, q w H (.refl H) hr⟩ hs
  · simp only [Rep] at r1 r2
    obtain ⟨p, vs, rfl, t1, a1⟩ := r1
    subst r2
    obtain ⟨w, hw, hr⟩ := a1.at e
    exact ix_tup value slice pins s σ H _ _ v u Q I rx ry ⟨p, vs, _, w, rfl, rfl, t1.sq, hw, q w H (.refl H) hr⟩ hs
  · split at e
    · rename_i hz
      obtain ⟨c, hc, rfl⟩ := Option.map_eq_some_iff.mp e
      simp only [Rep] at r1 r2
      subst r1; subst r2
      exact ix_str value slice pins s σ H _ _ v u Q I rx ry ⟨_, _, c, rfl, rfl, hz, hc, q _ H (.refl H) rep_str⟩ hs
    · cases e
  · cases e
theorem ed_ix {ma mb : M Opd} (ha : RD X ks ps a ma) (hb : RD X ks ps b mb) (hs : PlainIx b) : ED X ks ps (.Subscript a b pos) (mBin itemD ma mb) :=
  PE.imp (pe_ix ix_data ha hb hs) fun σ H Q q => red2 (fun x y H Q z => z) q

/-! ### slices -/
def cutD (ds : List PyData) (lo hi : Option Int) : List PyData := (ds.drop (HT.sIx ds.length 0 lo)).take (HT.sIx ds.length ds.length hi - HT.sIx ds.length 0 lo)
def sliceD (lo hi : Option Int) : PyData → Option PyData
  | .list ds => some (.list (cutD ds lo hi))
  | .tuple ds => some (.tuple (cutD ds lo hi))
  | _ => none
theorem RepA.cut {K : PySem.W.Frag} {H : Hp} {O : Addr → Prop} {ds : List PyData} {xs : List V} (lo hi : Option Int) (h : RepA K H O ds xs) : RepA K H O (cutD ds lo hi) (cutV xs lo hi) := by
  unfold cutD cutV
  rw [← h.length]
  exact (h.drop _).take _
theorem sl_data : SlR X (fun x lo hi H Q => ∃ O dx d, (∀ p, H p = none → ¬ O p) ∧ Rep X.K H O dx x ∧ sliceD lo hi dx = some d ∧ ∀ v H', Same H H' → Rep X.K H' O d v → Q v H') := by
  intro pins s σ H x v vl vu lo hi sl Q I rx hsl pl pu q
  obtain ⟨O, dx, d, fr, r1, e, q⟩ := q
  unfold sliceD at e
  split at e
  · cases e
    simp only [Rep] at r1
    obtain ⟨p, vs, rfl, t1, a1⟩ := r1
    refine sl_list pins s σ H _ v vl vu lo hi sl Q I rx hsl pl pu ⟨p, vs, rfl, t1.sq, fun l hl => ?_⟩
    have sm := same_upd (o := .lst (cutV vs lo hi)) hl
    refine q _ _ sm ?_
    simp only [Rep]
    exact ⟨l, _, rfl, LstAt.rd (.inl upd_same) (fr l hl), RepA.kp (Same.kp sm) (a1.cut lo hi)⟩
  · cases e
    have r1' := r1
    simp only [Rep] at r1
    obtain ⟨p, vs, rfl, t1, a1⟩ := r1
    refine sl_tupA pins s σ H _ v vl vu lo hi sl Q I rx hsl pl pu ⟨p, vs, rfl, t1.sq, fun hw => ?_, fun hw l hl => ?_⟩
    · refine q _ H (.refl H) ?_
      have : cutD (by assumption) lo hi = (by assumption) := by
        unfold cutD
        rw [a1.length, hw.1, hw.2, ← a1.length]
        simp
      rw [this]
      exact r1'
    · have sm := same_upd (o := .tup (cutV vs lo hi)) hl
      refine q _ _ sm ?_
      simp only [Rep]
      exact ⟨l, _, rfl, .of upd_same, RepA.kp (Same.kp sm) (a1.cut lo hi)⟩
  · cases e
/-- a part of a slice -/
abbrev PartD (X : Cx) (ks : List Kd) (ps : List (Nat × V)) (e : Option Expr) (m : M (Option Int)) : Prop :=
  PO X e (fun σ H Q => ∃ G F env d env', EI X.K ks ps G F σ H env ∧ m env = some (d, env') ∧ ∀ F' H', Stp F H F' H' → EI X.K ks ps G F' σ H' env' → Q d H')
theorem PO.imp {X : Cx} {e : Option Expr} {t t' : TO} (h : PO X e t) (w : ∀ σ H Q, t' σ H Q → t σ H Q) : PO X e t' := ⟨fun pins s σ H Q I q => h.run pins s σ H Q I (w σ H Q q)⟩
def mNoPart : M (Option Int) := ret none
def iOf : PyData → Option (Option Int)
  | .int i => some (some i)
  | _ => none
def mPart (m : M PyData) : M (Option Int) := bnd m fun d => lft (iOf d)
theorem pd_none : PartD X ks ps none mNoPart := PO.imp po_none fun σ H Q q => by
  obtain ⟨G, F, env, d, env', I, hm, q⟩ := q
  cases hm
  exact q F H .refl I
theorem pd_some {m : M PyData} (h : ED X ks ps e m) : PartD X ks ps (some e) (mPart m) := PO.imp (po_some h) fun σ H Q q => by
  obtain ⟨G, F, env, d, env', I, hm, q⟩ := q
  obtain ⟨x, e1, h1, h2⟩ := bnd_some hm
  obtain ⟨h2, rfl⟩ := lft_some h2
  refine ⟨G, F, env, x, env', I, h1, fun v F' H' S J r => ?_⟩
  cases x with
  | int i =>
    cases h2
    simp only [Rep] at r
    exact ⟨i, r, q F' H' S J⟩
  | _ => cases h2
def mSl (m : M Opd) (l h : M (Option Int)) : M PyData := bnd m fun o => bnd l fun lo => bnd h fun hi => rs1 (sliceD lo hi) o
theorem ed_sl {lo hi : Option Expr} {p2 : Pos} {m : M Opd} {l h : M (Option Int)} (ha : RD X ks ps a m) (hl : PartD X ks ps lo l) (hh : PartD X ks ps hi h) : ED X ks ps (.Subscript a (.Slice lo hi none p2) pos) (mSl m l h) :=
  PE.imp (pe_slice sl_data ha hl hh) fun σ H Q q => by
    obtain ⟨G, F, env, d, env', I, hm, q⟩ := q
    obtain ⟨ox, e1, h1, h2⟩ := bnd_some hm
    obtain ⟨l1, e2, h3, h4⟩ := bnd_some h2
    obtain ⟨u1, e3, h5, h6⟩ := bnd_some h4
    obtain ⟨rfl, dx, g1, g3, gi⟩ := rs1_some h6
    refine ⟨G, F, env, ox, e1, I, h1, fun v F1 H1 S1 I1 r1 => ⟨G, F1, e1, l1, e2, I1, h3, fun F2 H2 S2 I2 => ⟨G, F2, e2, u1, env', I2, h5, fun F3 H3 S3 I3 => ?_⟩⟩⟩
    refine ⟨_, dx, d, fresh_if I3, HoldsO.rep I3 ((r1.stp S2).stp S3) g1, g3, fun w H4 s4 r4 => ?_⟩
    exact q w F3 H4 (((S1.trans S2).trans S3).trans (.same s4)) (I3.same s4) (ifown gi r4)
/-- xs[::-1] -/
def revD : PyData → Option PyData
  | .list ds => some (.list ds.reverse)
  | _ => none
theorem ed_revL {k : Nat} {p1 p2 p3 : Pos} {m : M Opd} (ha : RD X ks ps a m) : ED X ks ps (.Subscript a (.Slice none none (some (.UnaryOp .USub (.Constant (.int 1) k p1) p2)) p3) pos) (mUn revD m) :=
  PE.imp (pe_revL ha) fun σ H Q q => by
    obtain ⟨G, F, env, d, env', I, hm, q⟩ := q
    obtain ⟨ox, e1, h1, h2⟩ := bnd_some hm
    obtain ⟨rfl, dx, g1, g3, gi⟩ := rs1_some h2
    refine ⟨G, F, env, ox, env', I, h1, fun v F1 H1 S1 I1 r1 => ?_⟩
    have r := HoldsO.rep I1 r1 g1
    unfold revD at g3
    split at g3
    · cases g3
      simp only [Rep] at r
      obtain ⟨p, vs, rfl, t1, a1⟩ := r
      refine ⟨p, vs, rfl, t1.sq, fun l hl => ?_⟩
      have sm := same_upd (o := .lst vs.reverse) hl
      refine q _ F1 _ (S1.trans (.same sm)) (I1.same sm) (ifown gi ?_)
      simp only [Rep]
      exact ⟨l, _, rfl, LstAt.rd (.inl upd_same) (fresh_if I1 l hl), RepA.kp (Same.kp sm) a1.reverse⟩
    · cases g3

/-! ### what is new and one's own -/
def tF (K : PySem.W.Frag) (ks : List Kd) (ps : List (Nat × V)) (kd : Kd) (m : M PyData) : TE := fun σ H Q => ∃ G F env d env', EI K ks ps G F σ H env ∧ m env = some (d, env') ∧
  ∀ v F' H' Fr, Stp F H F' H' → EI K ks ps (fun a => G a ∨ a ∈ Fr) F' σ H' env' → OwnAt K H' (OO (fun a => G a ∨ a ∈ Fr) F') kd Fr d v → Fr.Nodup → (∀ a ∈ Fr, ¬ G a ∧ (a ∈ F.flatten ∨ H a = none)) → Q v H'
abbrev FD (X : Cx) (ks : List Kd) (ps : List (Nat × V)) (kd : Kd) (e : Expr) (m : M PyData) : Prop := PE X e (tF X.K ks ps kd m)
theorem noneG {G : Addr → Prop} : (fun a => G a ∨ a ∈ ([] : List Addr)) = G := by funext a; simp
theorem fd_frz {m : M PyData} (h : ED X ks ps e m) : FD X ks ps .frz e m := PE.imp h fun σ H Q q => by
  obtain ⟨G, F, env, d, env', I, hm, q⟩ := q
  refine ⟨G, F, env, d, env', I, hm, fun v F' H' S J r => q v F' H' [] S (by rw [noneG]; exact J) ⟨rfl, by rw [noneG]; exact r⟩ List.nodup_nil fun a ha => nomatch ha⟩

/-! ### blocks, statements -/
abbrev B := Ev → Option Out
def sSeq (m n : B) : B := fun e => match m e with
  | some (.nx e') => n e'
  | r => r
def sNx : B := fun e => some (.nx e)
def sBk : B := fun e => some (.bk e)
def sCt : B := fun e => some (.ct e)
def sNo : B := fun _ => none
theorem ss_nil : SsD X ks ps rk [] sNx := PSs.imp pss_nil fun D σ H q => by
  obtain ⟨G, F, env, out, I, hm, q⟩ := q
  cases hm
  exact q σ F H .refl I
theorem ss_cons {st : Stmt} {sts : List Stmt} {m n : B} (h1 : SD X ks ps rk st m) (h2 : SsD X ks ps rk sts n) : SsD X ks ps rk (st :: sts) (sSeq m n) := PSs.imp (pss_cons h1 h2) fun D σ H q => by
  obtain ⟨G, F, env, out, I, hm, q⟩ := q
  unfold sSeq at hm
  cases h : m env with
  | none => rw [h] at hm; cases hm
  | some o1 =>
    rw [h] at hm
    refine ⟨G, F, env, o1, I, h, ?_⟩
    cases o1 with
    | nx e1 =>
      dsimp only at hm ⊢
      intro σ' F' H' S J
      refine ⟨G, F', e1, out, J, hm, ?_⟩
      cases out with
      | nx e2 => exact fun σ2 F2 H2 S2 J2 => q σ2 F2 H2 (S.trans S2) J2
      | rt d e2 => exact fun v σ2 F2 H2 Fr S2 J2 r n hF => q v σ2 F2 H2 Fr (S.trans S2) J2 r n fun a ha => ⟨(hF a ha).1, S.nw (hF a ha).2⟩
      | bk e2 => exact fun σ2 F2 H2 S2 J2 => q σ2 F2 H2 (S.trans S2) J2
      | ct e2 => exact fun σ2 F2 H2 S2 J2 => q σ2 F2 H2 (S.trans S2) J2
    | rt d e1 => cases hm; exact q
    | bk e1 => cases hm; exact q
    | ct e1 => cases hm; exact q
theorem ss_one {st : Stmt} {m : B} (h1 : SD X ks ps rk st m) : SsD X ks ps rk [st] m := pss_one h1
theorem sd_pass : SD X ks ps rk (.Pass pos) sNx := PS.imp ps_pass fun D σ H q => by
  obtain ⟨G, F, env, out, I, hm, q⟩ := q
  cases hm
  exact q σ F H .refl I
theorem sd_break : SD X ks ps rk (.Break pos) sBk := PS.imp ps_break fun D σ H q => by
  obtain ⟨G, F, env, out, I, hm, q⟩ := q
  cases hm
  exact q σ F H .refl I
theorem sd_continue : SD X ks ps rk (.Continue pos) sCt := PS.imp ps_continue fun D σ H q => by
  obtain ⟨G, F, env, out, I, hm, q⟩ := q
  cases hm
  exact q σ F H .refl I
/-- never reached -/
theorem sd_no {st : Stmt} : SD X ks ps rk st sNo := ⟨fun pins s σ H D I q => by obtain ⟨G, F, env, out, I, hm, q⟩ := q; cases hm⟩
def sExpr {α : Type} (m : M α) : B := fun e => match m e with
  | some (_, e') => some (.nx e')
  | none => none
theorem sd_expr {m : M PyData} (h : ED X ks ps e m) (hs : swapsWith e none pos.line X.env = pure false := by rfl) : SD X ks ps rk (.Expr e pos) (sExpr m) := PS.imp (ps_expr h hs) fun D σ H q => by
  obtain ⟨G, F, env, out, I, hm, q⟩ := q
  unfold sExpr at hm
  split at hm
  · rename_i d e' h1
    cases hm
    exact ⟨G, F, env, d, e', I, h1, fun v F' H' S J r => q σ F' H' S J⟩
  · cases hm
def sRet (m : M PyData) : B := fun e => match m e with
  | some (d, e') => some (.rt d e')
  | none => none
theorem sd_retF {m : M PyData} (h : FD X ks ps rk e m) : SD X ks ps rk (.Return (some e) pos) (sRet m) := PS.imp (ps_ret h) fun D σ H q => by
  obtain ⟨G, F, env, out, I, hm, q⟩ := q
  unfold sRet at hm
  split at hm
  · rename_i d e' h1
    cases hm
    exact ⟨G, F, env, d, e', I, h1, fun v F' H' Fr S J r n hF => q v σ F' H' Fr S J r n hF⟩
  · cases hm
theorem sd_ret {m : M PyData} (h : ED X ks ps e m) : SD X ks ps .frz (.Return (some e) pos) (sRet m) := sd_retF (fd_frz h)
def sRetN : B := fun e => some (.rt .none e)
theorem sd_retN : SD X ks ps .frz (.Return none pos) sRetN := PS.imp ps_retN fun D σ H q => by
  obtain ⟨G, F, env, out, I, hm, q⟩ := q
  cases hm
  exact q _ σ F H [] .refl (by rw [noneG]; exact I) ⟨rfl, rep_non⟩ List.nodup_nil fun a ha => nomatch ha
def sIf (c : M Bool) (m n : B) : B := fun e => match c e with
  | some (true, e') => m e'
  | some (false, e') => n e'
  | none => none
theorem sd_if {m n : B} {t : M Bool} {sa sb : List Stmt} (hc : TD X ks ps c t) (ha : SsD X ks ps rk sa m) (hb : SsD X ks ps rk sb n) : SD X ks ps rk (.If c sa sb pos) (sIf t m n) := PS.imp (ps_if hc ha hb) fun D σ H q => by
  obtain ⟨G, F, env, out, I, hm, q⟩ := q
  have fin : ∀ {e1 : Ev} {F1 : List (List Addr)} {H1 : Hp} {k : B}, Stp F H F1 H1 → EI X.K ks ps G F1 σ H1 e1 → k e1 = some out → tS X.K ks ps rk k D σ H1 := fun {e1 F1 H1 k} S J hk => by
    refine ⟨G, F1, e1, out, J, hk, ?_⟩
    cases out with
    | nx e2 => exact fun σ2 F2 H2 S2 J2 => q σ2 F2 H2 (S.trans S2) J2
    | rt d e2 => exact fun v σ2 F2 H2 Fr S2 J2 r n hF => q v σ2 F2 H2 Fr (S.trans S2) J2 r n fun a ha => ⟨(hF a ha).1, S.nw (hF a ha).2⟩
    | bk e2 => exact fun σ2 F2 H2 S2 J2 => q σ2 F2 H2 (S.trans S2) J2
    | ct e2 => exact fun σ2 F2 H2 S2 J2 => q σ2 F2 H2 (S.trans S2) J2
  unfold sIf at hm
  split at hm
  · rename_i e' h1
    exact ⟨G, F, env, true, e', I, h1, fun F' H' S J => iteT (fin S J hm)⟩
  · rename_i e' h1
    exact ⟨G, F, env, false, e', I, h1, fun F' H' S J => iteF (fin S J hm)⟩
  · cases hm

/-! ### stores -/
/-- slot i is not owned: it takes any datum -/
theorem EI.set_frz {K : PySem.W.Frag} {G : Addr → Prop} {F : List (List Addr)} {σ : L2.St} {H : Hp} {env : Ev} (I : EI K ks ps G F σ H env) {i : Nat} (hk : ks[i]? = some .frz) (hp : ∀ p ∈ ps, p.1 ≠ i) {d : PyData} {v : V} (r : Rep K H (OO G F) d v) :
    EI K ks ps G F (σ.set i (some v)) H (env.set i (some d)) where
  lF := I.lF
  lE := by simpa using I.lE
  lS := by simpa using I.lS
  nd := I.nd
  tr := I.tr
  gt := I.gt
  sl := fun j d' kd h1 h2 => by
    have hi : i < ks.length := (List.getElem?_eq_some_iff.mp hk).1
    by_cases hj : j = i
    · subst hj
      rw [List.getElem?_set_self (by rw [I.lE]; exact hi)] at h1
      cases h1
      rw [hk] at h2; cases h2
      exact ⟨v, [], by rw [List.getElem?_set_self (by rw [I.lS]; exact hi)], I.fz _ hk, rfl, r⟩
    · rw [List.getElem?_set_ne (Ne.symm hj)] at h1
      obtain ⟨w, Fi, e1, e2, o⟩ := I.sl j d' kd h1 h2
      exact ⟨w, Fi, by rw [List.getElem?_set_ne (Ne.symm hj)]; exact e1, e2, o⟩
  pn := fun p hp' => by rw [List.getElem?_set_ne (Ne.symm (hp p hp'))]; exact I.pn p hp'
  fz := I.fz
/-- a target: what storing a datum does -/
abbrev St1 := PyData → Ev → Option Ev
def tG (K : PySem.W.Frag) (ks : List Kd) (ps : List (Nat × V)) (vs : List Nat) (m : St1) : TG := fun v σ H Q => ∃ G F env d env', EI K ks ps G F σ H env ∧ Rep K H (OO G F) d v ∧ m d env = some env' ∧ ∀ σ' F' H', wipe σ' vs = wipe σ vs → Stp F H F' H' → EI K ks ps G F' σ' H' env' → Q σ' H'
def tGs (K : PySem.W.Frag) (ks : List Kd) (ps : List (Nat × V)) (ws : List Nat) (m : List PyData → Ev → Option Ev) : TGs := fun vs σ H Q => ∃ G F env ds env', EI K ks ps G F σ H env ∧ RepA K H (OO G F) ds vs ∧ m ds env = some env' ∧ ∀ σ' F' H', wipe σ' ws = wipe σ ws → Stp F H F' H' → EI K ks ps G F' σ' H' env' → Q σ' H'
abbrev GD (X : Cx) (ks : List Kd) (ps : List (Nat × V)) (vs : List Nat) (tg : Expr) (m : St1) : Prop := PG X tg (tG X.K ks ps vs m)
abbrev GsD (X : Cx) (ks : List Kd) (ps : List (Nat × V)) (vs : List Nat) (ts : List Expr) (m : List PyData → Ev → Option Ev) : Prop := PGs X ts (tGs X.K ks ps vs m)
theorem PG.imp {tg : Expr} {t t' : TG} (h : PG X tg t) (w : ∀ v σ H Q, t' v σ H Q → t v σ H Q) : PG X tg t' := ⟨fun pins s σ H v u Q I r q => h.run pins s σ H v u Q I r (w v σ H Q q)⟩
theorem PGs.imp {ts : List Expr} {t t' : TGs} (h : PGs X ts t) (w : ∀ v σ H Q, t' v σ H Q → t v σ H Q) : PGs X ts t' := ⟨fun pins s σ H v u Q I r q => h.run pins s σ H v u Q I r (w v σ H Q q)⟩
def gNm (i : Nat) : St1 := fun d e => some (e.set i (some d))
def psOk (ps : List (Nat × V)) (i : Nat) : Bool := ps.all fun p => p.1 != i
theorem psOk_ne {i : Nat} (h : psOk ps i = true) : ∀ p ∈ ps, p.1 ≠ i := fun p hp e => by
  unfold psOk at h
  rw [List.all_eq_true] at h
  have := h p hp
  simp [e] at this
theorem wipe_set {σ : L2.St} {i : Nat} {o : Option V} : ∀ {vs : List Nat}, i ∈ vs → wipe (σ.set i o) vs = wipe σ vs
  | [], h => nomatch h
  | v :: vs, h => by
    unfold wipe
    by_cases hi : i ∈ vs
    · rw [wipe_set hi]
    · have hv : i = v := (List.mem_cons.mp h).resolve_right hi
      subst hv
      have out : ∀ (ws : List Nat) (τ : L2.St), i ∉ ws → wipe (τ.set i o) ws = (wipe τ ws).set i o := by
        intro ws
        induction ws with
        | nil => intro τ _; rfl
        | cons w ws ih =>
          intro τ hn
          unfold wipe
          rw [ih τ fun z => hn (List.mem_cons_of_mem _ z), List.set_comm _ _ (fun e => hn (by rw [e]; exact List.mem_cons_self))]
      rw [out vs σ hi, List.set_set]
theorem gd_name {vs : List Nat} {i : Nat} {x : Str} (hN : X.N.Nodup) (hi : X.N[i]? = some x) (hx : Loc X.env.scope x) (hk : ks[i]? = some .frz) (hp : psOk ps i = true) (hv : i ∈ vs)
    (hf : X.fn x = true ∨ X.env.scope.names.lookup x = some .local := by first | exact .inl rfl | exact .inr rfl | assumption) : GD X ks ps vs (.Name x pos) (gNm i) := PG.imp (pg_name hN hi hx hf) fun v σ H Q q => by
  obtain ⟨G, F, env, d, env', I, r, hm, q⟩ := q
  cases hm
  exact q _ F H (wipe_set hv) .refl (I.set_frz hk (psOk_ne hp) r)
def gNl : List PyData → Ev → Option Ev := fun ds e => match ds with
  | [] => some e
  | _ => none
def gCn (m : St1) (n : List PyData → Ev → Option Ev) : List PyData → Ev → Option Ev := fun ds e => match ds with
  | [] => none
  | d :: r => match m d e with
    | none => none
    | some e1 => n r e1
theorem gsd_nil {vs : List Nat} : GsD X ks ps vs [] gNl := PGs.imp pgs_nil fun v σ H Q q => by
  obtain ⟨G, F, env, ds, env', I, r, hm, q⟩ := q
  unfold gNl at hm
  split at hm
  · cases hm
    simp only [RepA] at r
    exact ⟨r, q σ F H rfl .refl I⟩
  · cases hm
theorem gsd_cons {vs : List Nat} {m : St1} {n : List PyData → Ev → Option Ev} (h1 : GD X ks ps vs e m) (h2 : GsD X ks ps vs es n)
    (hs : (assignEach (e :: es) X.env).map (·.2) = assign e X.env :: (assignEach es X.env).map (·.2) := by rfl) : GsD X ks ps vs (e :: es) (gCn m n) := PGs.imp (pgs_cons h1 h2 hs) fun v σ H Q q => by
  obtain ⟨G, F, env, ds, env', I, r, hm, q⟩ := q
  unfold gCn at hm
  split at hm
  · cases hm
  · rename_i d t
    split at hm
    · cases hm
    · rename_i e1 h1
      simp only [RepA] at r
      obtain ⟨x, xs, rfl, r1, r2⟩ := r
      exact ⟨x, xs, rfl, G, F, env, d, e1, I, r1, h1, fun σ1 F1 H1 w1 S1 I1 => ⟨G, F1, e1, t, env', I1, RepA.kp S1.kp r2, hm, fun σ2 F2 H2 w2 S2 I2 => q σ2 F2 H2 (w2.trans w1) (S1.trans S2) I2⟩⟩
def gTp (n : Nat) (m : List PyData → Ev → Option Ev) : St1 := fun d e => match d with
  | .tuple ds => if ds.length = n then m ds e else none
  | _ => none
theorem gd_tup {vs : List Nat} {k : Nat} {m : List PyData → Ev → Option Ev} {n : Nat} (hc : X.calm = true) (h : GsD X ks ps vs es m) (hn : (assignEach es X.env).length = n := by rfl) (hst : (assignEach es X.env).findIdx? (·.1) = none := by rfl) :
    GD X ks ps vs (.Tuple es k pos) (gTp n m) := PG.imp (pg_tup hc h hn hst) fun v σ H Q q => by
  obtain ⟨G, F, env, d, env', I, r, hm, q⟩ := q
  unfold gTp at hm
  split at hm
  · rename_i ds
    split at hm
    · rename_i hl
      simp only [Rep] at r
      obtain ⟨a, xs, rfl, t1, a1⟩ := r
      exact ⟨a, xs, rfl, t1.sq, by rw [← a1.length]; exact hl, G, F, env, ds, env', I, a1, hm, q⟩
    · cases hm
  · cases hm
def sAsg (m : M PyData) (g : St1) : B := fun e => match m e with
  | none => none
  | some (d, e1) => match g d e1 with
    | none => none
    | some e2 => some (.nx e2)
theorem sAsg_some {m : M PyData} {g : St1} {e : Ev} {out : Out} (h : sAsg m g e = some out) : ∃ d e1 e2, m e = some (d, e1) ∧ g d e1 = some e2 ∧ out = .nx e2 := by
  unfold sAsg at h
  split at h
  · cases h
  · rename_i d e1 h1
    split at h
    · cases h
    · rename_i e2 h2
      cases h
      exact ⟨d, e1, e2, h1, h2, rfl⟩
/-- target = e, where nothing is swapped -/
theorem sd_asg {vs : List Nat} {tg : Expr} {m : M PyData} {g : St1} (he : ED X ks ps e m) (hg : GD X ks ps vs tg g) (hs : swapsWithSole [tg] e pos.line X.env = pure false := by rfl) (hw : swappedStores [tg] e X.env = pure none := by rfl)
    (h1 : (assignEach [tg] X.env).map (·.2) = [assign tg X.env] := by rfl) : SD X ks ps rk (.Assign [tg] e pos) (sAsg m g) := PS.imp (ps_asg he hg hs hw h1) fun D σ H q => by
  obtain ⟨G, F, env, out, I, hm, q⟩ := q
  obtain ⟨d, e1, e2, h1, h2, rfl⟩ := sAsg_some hm
  exact ⟨G, F, env, d, e1, I, h1, fun v F1 H1 S1 I1 r => ⟨G, F1, e1, d, e2, I1, r, h2, fun σ2 F2 H2 _ S2 I2 => q σ2 F2 H2 (S1.trans S2) I2⟩⟩
/-- name = e -/
theorem sd_set {i : Nat} {x : Str} {m : M PyData} (hN : X.N.Nodup) (hi : X.N[i]? = some x) (hx : Loc X.env.scope x) (hk : ks[i]? = some .frz) (hp : psOk ps i = true) (he : ED X ks ps e m) (hs : swapsWith e (some (.Name x pos')) pos.line X.env = pure false := by rfl)
    (hf : X.fn x = true ∨ X.env.scope.names.lookup x = some .local := by first | exact .inl rfl | exact .inr rfl | assumption) : SD X ks ps rk (.Assign [.Name x pos'] e pos) (sAsg m (gNm i)) := PS.imp (ps_set hN hi hx he hs hf) fun D σ H q => by
  obtain ⟨G, F, env, out, I, hm, q⟩ := q
  obtain ⟨d, e1, e2, h1, h2, rfl⟩ := sAsg_some hm
  cases h2
  exact ⟨G, F, env, d, e1, I, h1, fun v F1 H1 S1 I1 r => q _ F1 H1 S1 (I1.set_frz hk (psOk_ne hp) r)⟩
/-- a, b = e1, e2 with plain local names -/
def gL2 (i j : Nat) : List PyData → Ev → Option Ev := fun ds e => match ds with
  | [x, y] => some ((e.set i (some x)).set j (some y))
  | _ => none
def gL3 (i j l : Nat) : List PyData → Ev → Option Ev := fun ds e => match ds with
  | [x, y, z] => some (((e.set i (some x)).set j (some y)).set l (some z))
  | _ => none
def sPar (m : M (List Opd)) (g : List PyData → Ev → Option Ev) : B := fun e => match m e with
  | none => none
  | some (os, e1) => match allVal os with
    | none => none
    | some ds => match g ds e1 with
      | none => none
      | some e2 => some (.nx e2)
theorem sPar_some {m : M (List Opd)} {g : List PyData → Ev → Option Ev} {e : Ev} {out : Out} (h : sPar m g e = some out) : ∃ os e1 ds e2, m e = some (os, e1) ∧ allVal os = some ds ∧ g ds e1 = some e2 ∧ out = .nx e2 := by
  unfold sPar at h
  split at h
  · cases h
  · rename_i os e1 h1
    split at h
    · cases h
    · rename_i ds h2
      split at h
      · cases h
      · rename_i e2 h3
        cases h
        exact ⟨os, e1, ds, e2, h1, h2, h3, rfl⟩
theorem sd_par {i j : Nat} {x y : Str} {px py pt : Pos} {kt k2 pt2} {m : M (List Opd)} (hc : X.calm = true) (hN : X.N.Nodup) (hi : X.N[i]? = some x) (hj : X.N[j]? = some y) (hij : i ≠ j)
    (hx : X.env.scope.names.lookup x = some .local) (hy : X.env.scope.names.lookup y = some .local) (hki : ks[i]? = some .frz) (hkj : ks[j]? = some .frz) (hpi : psOk ps i = true) (hpj : psOk ps j = true) (ha : AoD X ks ps [a, b] m)
    (hw : swappedStores [.Tuple [.Name x px, .Name y py] kt pt] (.Tuple [a, b] k2 pt2) X.env = pure (some [x, y]))
    (hs : swapsWithSole [.Tuple [.Name x px, .Name y py] kt pt] (.Tuple [a, b] k2 pt2) pos.line X.env = pure false := by rfl) :
    SD X ks ps rk (.Assign [.Tuple [.Name x px, .Name y py] kt pt] (.Tuple [a, b] k2 pt2) pos) (sPar m (gL2 i j)) := PS.imp (ps_par hc hN hi hj hij hx hy ha hw hs) fun D σ H q => by
  obtain ⟨G, F, env, out, I, hm, q⟩ := q
  obtain ⟨os, e1, ds, e2, h1, h2, h3, rfl⟩ := sPar_some hm
  refine ⟨G, F, env, os, e1, I, h1, fun vs F1 H1 S1 I1 r => ?_⟩
  have ra := HoldsA.vals r h2
  unfold gL2 at h3
  split at h3
  · cases h3
    obtain ⟨v, w, rfl, r1, r2⟩ := repA2 ra
    exact ⟨v, w, rfl, q _ F1 H1 S1 ((I1.set_frz hki (psOk_ne hpi) r1).set_frz hkj (psOk_ne hpj) r2)⟩
  · cases h3
theorem repA3 {K : PySem.W.Frag} {H : Hp} {O : Addr → Prop} {d e f : PyData} {xs : List V} (h : RepA K H O [d, e, f] xs) : ∃ x y z, xs = [x, y, z] ∧ Rep K H O d x ∧ Rep K H O e y ∧ Rep K H O f z := by
  simp only [RepA] at h
  obtain ⟨x, r, rfl, h1, y, r2, rfl, h2, z, r3, rfl, h3, rfl⟩ := h
  exact ⟨x, y, z, rfl, h1, h2, h3⟩
theorem sd_par3 {i j l : Nat} {x y z : Str} {px py pz pt : Pos} {kt k2 pt2} {m : M (List Opd)} (hc : X.calm = true) (hN : X.N.Nodup) (hi : X.N[i]? = some x) (hj : X.N[j]? = some y) (hl : X.N[l]? = some z) (hij : i ≠ j) (hil : i ≠ l) (hjl : j ≠ l)
    (hx : X.env.scope.names.lookup x = some .local) (hy : X.env.scope.names.lookup y = some .local) (hz : X.env.scope.names.lookup z = some .local) (hki : ks[i]? = some .frz) (hkj : ks[j]? = some .frz) (hkl : ks[l]? = some .frz)
    (hpi : psOk ps i = true) (hpj : psOk ps j = true) (hpl : psOk ps l = true) (ha : AoD X ks ps [a, b, c] m)
    (hw : swappedStores [.Tuple [.Name x px, .Name y py, .Name z pz] kt pt] (.Tuple [a, b, c] k2 pt2) X.env = pure (some [x, y, z]))
    (hs : swapsWithSole [.Tuple [.Name x px, .Name y py, .Name z pz] kt pt] (.Tuple [a, b, c] k2 pt2) pos.line X.env = pure false := by rfl) :
    SD X ks ps rk (.Assign [.Tuple [.Name x px, .Name y py, .Name z pz] kt pt] (.Tuple [a, b, c] k2 pt2) pos) (sPar m (gL3 i j l)) := PS.imp (ps_par3 hc hN hi hj hl hij hil hjl hx hy hz ha hw hs) fun D σ H q => by
  obtain ⟨G, F, env, out, I, hm, q⟩ := q
  obtain ⟨os, e1, ds, e2, h1, h2, h3, rfl⟩ := sPar_some hm
  refine ⟨G, F, env, os, e1, I, h1, fun vs F1 H1 S1 I1 r => ?_⟩
  have ra := HoldsA.vals r h2
  unfold gL3 at h3
  split at h3
  · cases h3
    obtain ⟨u, v, w, rfl, r1, r2, r3⟩ := repA3 ra
    exact ⟨u, v, w, rfl, q _ F1 H1 S1 (((I1.set_frz hki (psOk_ne hpi) r1).set_frz hkj (psOk_ne hpj) r2).set_frz hkl (psOk_ne hpl) r3)⟩
  · cases h3
/-- name op= e -/
def sAug (i : Nat) (g : PyData → PyData → Option PyData) (m : M PyData) : B := fun e => match e[i]? with
  | some (some x) => match m e with
    | none => none
    | some (y, e1) => match g x y with
      | none => none
      | some z => some (.nx (e1.set i (some z)))
  | _ => none
theorem sd_aug {i : Nat} {x : Str} {op : Operator} {g : PyData → PyData → Option PyData} {m : M PyData} (hN : X.N.Nodup) (hi : X.N[i]? = some x) (hx : Loc X.env.scope x) (hk : ks[i]? = some .frz) (hp : psOk ps i = true) (ho : Op2 X (inplaceOp op) g) (he : ED X ks ps e m)
    (hf : X.fn x = true ∨ X.env.scope.names.lookup x = some .local := by first | exact .inl rfl | exact .inr rfl | assumption) : SD X ks ps rk (.AugAssign (.Name x pos') op e pos) (sAug i g m) :=
  PS.imp (ps_aug hN hi hx he (fun pins s σ H x y v u Q I r1 r2 h => ho pins s σ H x y v u Q I r1 r2 h) hf) fun D σ H q => by
    obtain ⟨G, F, env, out, I, hm, q⟩ := q
    unfold sAug at hm
    split at hm
    · rename_i dx hd
      split at hm
      · cases hm
      · rename_i y e1 h1
        split at hm
        · cases hm
        · rename_i z hz
          cases hm
          obtain ⟨v, hv, rv⟩ := I.at_frz hd hk
          refine ⟨v, hv, G, F, env, y, e1, I, h1, fun w F1 H1 S1 I1 r1 => ⟨OO G F1, dx, y, z, fun p hp => OO_new I1 hp, Rep.kp S1.kp rv, r1, hz, fun u H2 s2 r2 => ?_⟩⟩
          exact q _ F1 H2 (S1.trans (.same s2)) ((I1.same s2).set_frz hk (psOk_ne hp) r2)
    · cases hm

/-! ### for -/
/-- the loop over the items -/
def loopB (g : St1) (body : B) : List PyData → Ev → Option Out
  | [], e => some (.nx e)
  | d :: r, e => match g d e with
    | none => none
    | some e1 => match body e1 with
      | some (.nx e2) => loopB g body r e2
      | some (.ct e2) => loopB g body r e2
      | some (.bk e2) => some (.nx e2)
      | some (.rt x e2) => some (.rt x e2)
      | none => none
/-- what a for walks: the items -/
def tI (K : PySem.W.Frag) (ks : List Kd) (ps : List (Nat × V)) (m : M (List PyData)) : TI := fun σ H R => ∃ G F env ds env', EI K ks ps G F σ H env ∧ m env = some (ds, env') ∧
  ∀ J F' H' (Gd : Hp → Prop) (Y : Nat → Hp → V → Hp → Prop), Stp F H F' H' → EI K ks ps G F' σ H' env' → Walk J ds.length Gd Y → (∀ F2 H2, Stp F' H' F2 H2 → Gd H2) →
    (∀ (G2 : Addr → Prop) i F2 H2 x H3 d, ds[i]? = some d → (∀ a, G2 a → G a ∨ H' a = none) → Stp F' H' F2 H2 → (∀ a, OO G2 F2 a → H2 a ≠ none) → Y i H2 x H3 → Same H2 H3 ∧ Rep K H3 (OO G2 F2) d x) → R J H'
/-- .. where more is kept from being held -/
theorem Stp.kp2 {G G2 : Addr → Prop} {F F' : List (List Addr)} {H H' : Hp} (s : Stp F H F' H') (h : ∀ a, G2 a → G a ∨ a ∈ F.flatten ∨ H a = none) : Kp (OO G F) H (OO G2 F') H' where
  keep := fun a o e n => ⟨s.keep a o e fun m => n (.inr m), fun z => by
    rcases z with z | z
    · rcases h a z with q | q | q
      · exact n (.inl q)
      · exact n (.inr q)
      · rw [q] at e; cases e
    · rcases s.new a z with q | q
      · exact n (.inr q)
      · rw [q] at e; cases e⟩
  tup := s.tup
  frz := s.frz
theorem EI.oo {K : PySem.W.Frag} {G : Addr → Prop} {F : List (List Addr)} {σ : L2.St} {H : Hp} {env : Ev} (I : EI K ks ps G F σ H env) : ∀ a, OO G F a → H a ≠ none := fun a z => by
  rcases z with z | z
  · exact I.gt a z
  · exact (I.tr a z).1
abbrev ID (X : Cx) (ks : List Kd) (ps : List (Nat × V)) (tg e : Expr) (m : M (List PyData)) : Prop := PI X tg e (tI X.K ks ps m)
theorem PI.imp {tg : Expr} {t t' : TI} (h : PI X tg e t) (w : ∀ σ H R, t' σ H R → t σ H R) : PI X tg e t' := ⟨fun pins s σ H R I q => h.run pins s σ H R I (w σ H R q)⟩
def sFor (m : M (List PyData)) (g : St1) (body : B) : B := fun e => match m e with
  | none => none
  | some (ds, e1) => loopB g body ds e1
theorem sd_for {vs : List Nat} {tg it : Expr} {body : List Stmt} {m : M (List PyData)} {g : St1} {mb : B} (hp : PassesOwn (model X.prog X.w) X.A X.env X.xe) (hc : X.calm = true) (hi : ID X ks ps tg it m) (hg : GD X ks ps vs tg g) (hb : SsD X ks ps rk body mb)
    (hs : ∀ x, foldedSetIterable it X.env x = pure x := by intro _; rfl) : SD X ks ps rk (.For tg it body [] pos) (sFor m g mb) := PS.imp (ps_for hp hc hi hg hb hs) fun D σ H q => by
  obtain ⟨G, F, env, out, I, hm, q⟩ := q
  unfold sFor at hm
  split at hm
  · cases hm
  · rename_i ds e1 h1
    refine ⟨G, F, env, ds, e1, I, h1, fun J F1 H1 Gd Y S1 I1 W hG hY => ?_⟩
    refine for_it W (fun i σ' H' => ∃ F2 e2, Stp F1 H1 F2 H' ∧ EI X.K ks ps G F2 σ' H' e2 ∧ loopB g mb (ds.drop i) e2 = some out) ⟨F1, e1, .refl, I1, by simpa using hm⟩ (fun i σ' H' hi' ⟨F2, e2, S2, I2, _⟩ => hG F2 H' S2) (fun i x σ' H2 H3 hi' ⟨F2, e2, S2, I2, hl⟩ y => ?_) (fun σ' H' ⟨F2, e2, S2, I2, hl⟩ => ?_)
    · have hd : ds.drop i = ds[i] :: ds.drop (i + 1) := List.drop_eq_getElem_cons hi'
      obtain ⟨sm, rx⟩ := hY G i F2 H2 x H3 _ (List.getElem?_eq_getElem hi') (fun a h => .inl h) S2 I2.oo y
      rw [hd] at hl
      unfold loopB at hl
      split at hl
      · cases hl
      · rename_i e3 h3
        refine ⟨G, F2, e2, ds[i], e3, I2.same sm, rx, h3, fun σ4 F4 H4 _ S4 I4 => ?_⟩
        have S14 := (S2.trans (.same sm)).trans S4
        split at hl
        · rename_i e5 h5
          exact ⟨G, F4, e3, _, I4, h5, fun σ5 F5 H5 S5 I5 => ⟨F5, e5, S14.trans S5, I5, hl⟩⟩
        · rename_i e5 h5
          exact ⟨G, F4, e3, _, I4, h5, fun σ5 F5 H5 S5 I5 => ⟨F5, e5, S14.trans S5, I5, hl⟩⟩
        · rename_i e5 h5
          cases hl
          exact ⟨G, F4, e3, _, I4, h5, fun σ5 F5 H5 S5 I5 => q σ5 F5 H5 ((S1.trans S14).trans S5) I5⟩
        · rename_i z e5 h5
          cases hl
          exact ⟨G, F4, e3, _, I4, h5, fun v σ5 F5 H5 Fr S5 I5 r5 n hF => q v σ5 F5 H5 Fr ((S1.trans S14).trans S5) I5 r5 n fun a ha => ⟨(hF a ha).1, (S1.trans S14).nw (hF a ha).2⟩⟩
        · cases hl
    · rw [List.drop_length] at hl
      cases hl
      exact q σ' F2 H' (S1.trans S2) I2
/-- over a list, a tuple -/
def mIt (m : M PyData) : M (List PyData) := bnd m fun d => lft (itsOf d)
/-- what is walked is a list or a tuple -/
theorem pi_seq {tg l : Expr} {tl : TE} (hl : PE X l tl) : PI X tg l (fun σ H R => tl σ H fun x H1 => (∃ a, x = .ref a ∧ (∃ xs, SqL X.K H1 a xs) ∧ R (Itl X.K a) H1) ∨ (∃ a, x = .ref a ∧ (∃ xs, SqT X.K H1 a xs) ∧ R (Itt X.K a) H1)) := by
  constructor
  intro pins s σ H R I h
  refine thn (hl.run pins s σ H _ I h) ?_
  rintro v s1 ⟨x, H1, I1, r1, q1⟩
  have own : ∀ b ∈ [s1.heap.objs.size], FpOk X pins H1 b := fun b hb => by
    rw [List.mem_singleton] at hb
    rw [hb]
    exact I1.fpOk (Nat.le_refl _) I1.fresh
  rcases q1 with ⟨a, rfl, ⟨xs, hq⟩, q⟩ | ⟨a, rfl, ⟨xs, hq⟩, q⟩
  · cases r1
    obtain ⟨its, rv, p, hz⟩ := I1.list hq
    exact wpAny_pyIter_list p.isList ⟨s1.heap.objs.size, [s1.heap.objs.size], _, _, H1, rfl, I1.kept (t' := s1.toks) fun b o e => Heap.get?_push_of_some _ e, turn_list a _, ⟨_, Heap.get?_push_size _ rfl, rfl, rfl⟩, own, q⟩
  · cases r1
    obtain ⟨its, rv, p, hz⟩ := I1.tuple hq
    exact wpAny_pyIter_tuple (show s1.heap.IsTuple a its.toArray from p) ⟨s1.heap.objs.size, [s1.heap.objs.size], _, _, H1, rfl, I1.kept (t' := s1.toks) fun b o e => Heap.get?_push_of_some _ e, turn_tuple a _, ⟨_, Heap.get?_push_size _ rfl, rfl, rfl⟩, own, q⟩
theorem id_seq {tg : Expr} {m : M PyData} (h : ED X ks ps e m) : ID X ks ps tg e (mIt m) := PI.imp (pi_seq h) fun σ H R q => by
  obtain ⟨G, F, env, ds, env', I, hm, q⟩ := q
  obtain ⟨d, e1, h1, h2⟩ := bnd_some hm
  obtain ⟨h2, rfl⟩ := lft_some h2
  refine ⟨G, F, env, _, _, I, h1, fun v F' H' S J r => ?_⟩
  unfold itsOf at h2
  split at h2
  · cases h2
    simp only [Rep] at r
    obtain ⟨a, xs, rfl, t1, a1⟩ := r
    refine .inl ⟨a, rfl, ⟨xs, t1.sq⟩, q _ F' H' _ _ S J (by rw [a1.length]; exact walk_list (xs := xs)) (fun F2 H2 S2 => (t1.kp (S2.kp (G := G))).sq) (fun G2 i F2 H2 x H3 d hd hg S2 _ y => ?_)⟩
    obtain ⟨rfl, hx⟩ := y
    obtain ⟨x', e', r'⟩ := a1.get hd
    rw [hx] at e'; cases e'
    exact ⟨.refl _, Rep.kp (S2.kp2 fun a z => (hg a z).imp id .inr) r'⟩
  · cases h2
    simp only [Rep] at r
    obtain ⟨a, xs, rfl, t1, a1⟩ := r
    refine .inr ⟨a, rfl, ⟨xs, t1.sq⟩, q _ F' H' _ _ S J (by rw [a1.length]; exact walk_tup (xs := xs)) (fun F2 H2 S2 => SqT.kp (S2.kp (G := G)) t1.sq) (fun G2 i F2 H2 x H3 d hd hg S2 _ y => ?_)⟩
    obtain ⟨rfl, hx⟩ := y
    obtain ⟨x', e', r'⟩ := a1.get hd
    rw [hx] at e'; cases e'
    exact ⟨.refl _, Rep.kp (S2.kp2 fun a z => (hg a z).imp id .inr) r'⟩
  · cases h2
/-- ranges -/
def rngL (lo : Int) (n : Nat) : List PyData := (List.range n).map fun (k : Nat) => PyData.int (lo + (k : Int))
def rng62 (i : Int) : Bool := decide (-(2 ^ 62) ≤ i) && decide (i < 2 ^ 62)
def rg1 : List PyData → Option (List PyData)
  | [.int j] => if rng62 j then some (rngL 0 j.toNat) else none
  | _ => none
def rg2 : List PyData → Option (List PyData)
  | [.int i, .int j] => if rng62 i && rng62 j then some (rngL i (j - i).toNat) else none
  | _ => none
def mRng (g : List PyData → Option (List PyData)) (m : M (List Opd)) : M (List PyData) := bnd m fun os => lft (match allVal os with
  | none => none
  | some ds => g ds)
theorem rngL_get {lo : Int} {n i : Nat} {d : PyData} (h : (rngL lo n)[i]? = some d) : d = .int (lo + (i : Int)) := by
  unfold rngL at h
  rw [List.getElem?_map] at h
  by_cases hi : i < n
  · rw [List.getElem?_range hi] at h
    cases h; rfl
  · rw [List.getElem?_eq_none (by simp; omega)] at h
    cases h
theorem id_rng {K : PySem.W.Frag} {G : Addr → Prop} {F : List (List Addr)} {σ : L2.St} {H : Hp} {env : Ev} {R : It → Hp → Prop} {lo : Int} {n : Nat} {F' : List (List Addr)} {H' : Hp}
    (q : ∀ J F' H' (Gd : Hp → Prop) (Y : Nat → Hp → V → Hp → Prop), Stp F H F' H' → EI K ks ps G F' σ H' env → Walk J (rngL lo n).length Gd Y → (∀ F2 H2, Stp F' H' F2 H2 → Gd H2) →
      (∀ (G2 : Addr → Prop) i F2 H2 x H3 d, (rngL lo n)[i]? = some d → (∀ a, G2 a → G a ∨ H' a = none) → Stp F' H' F2 H2 → (∀ a, OO G2 F2 a → H2 a ≠ none) → Y i H2 x H3 → Same H2 H3 ∧ Rep K H3 (OO G2 F2) d x) → R J H')
    (S : Stp F H F' H') (J : EI K ks ps G F' σ H' env) : R (Itr lo n) H' := by
  refine q _ F' H' _ _ S J (by rw [show (rngL lo n).length = n by simp [rngL]]; exact walk_range) (fun _ _ _ => trivial) (fun G2 i F2 H2 x H3 d hd _ S2 _ y => ?_)
  obtain ⟨rfl, rfl⟩ := y
  rw [rngL_get hd]
  exact ⟨.refl _, rep_int⟩
theorem id_range1 {tg : Expr} {p : Pos} {m : M (List Opd)} (hg : Gl X "range") (hm : X.mg "range" = none) (ha : AoD X ks ps [a] m) (hs : starEach [a] X.env = [(false, eval a X.env)] := by rfl) : ID X ks ps tg (.Call (.Name "range" p) [a] [] pos) (mRng rg1 m) :=
  PI.imp (pi_range1 hg hm ha hs) fun σ H R q => by
    obtain ⟨G, F, env, ds, env', I, hm, q⟩ := q
    obtain ⟨os, e1, h1, h2⟩ := bnd_some hm
    obtain ⟨h2, rfl⟩ := lft_some h2
    split at h2
    · cases h2
    · rename_i dv hv
      refine ⟨G, F, env, os, _, I, h1, fun vs F' H' S J r => ?_⟩
      have ra := HoldsA.vals r hv
      unfold rg1 at h2
      split at h2
      · split at h2
        · cases h2
          rename_i hb
          unfold rng62 at hb
          simp only [Bool.and_eq_true, decide_eq_true_eq] at hb
          obtain ⟨x, rfl, r1⟩ := repA1 ra
          simp only [Rep] at r1
          subst r1
          exact ⟨_, rfl, hb.1, hb.2, id_rng q S J⟩
        · cases h2
      · cases h2
theorem id_range2 {tg : Expr} {p : Pos} {m : M (List Opd)} (hg : Gl X "range") (hm : X.mg "range" = none) (ha : AoD X ks ps [a, b] m) (hs : starEach [a, b] X.env = [(false, eval a X.env), (false, eval b X.env)] := by rfl)
    (hs2 : starEach [b] X.env = [(false, eval b X.env)] := by rfl) : ID X ks ps tg (.Call (.Name "range" p) [a, b] [] pos) (mRng rg2 m) :=
  PI.imp (pi_range2 hg hm ha hs hs2) fun σ H R q => by
    obtain ⟨G, F, env, ds, env', I, hm, q⟩ := q
    obtain ⟨os, e1, h1, h2⟩ := bnd_some hm
    obtain ⟨h2, rfl⟩ := lft_some h2
    split at h2
    · cases h2
    · rename_i dv hv
      refine ⟨G, F, env, os, _, I, h1, fun vs F' H' S J r => ?_⟩
      have ra := HoldsA.vals r hv
      unfold rg2 at h2
      split at h2
      · split at h2
        · cases h2
          rename_i hb
          unfold rng62 at hb
          simp only [Bool.and_eq_true, decide_eq_true_eq] at hb
          obtain ⟨x, y, rfl, r1, r2⟩ := repA2 ra
          simp only [Rep] at r1 r2
          subst r1; subst r2
          exact ⟨_, _, rfl, ⟨hb.1.1, hb.1.2, hb.2.1, hb.2.2⟩, id_rng q S J⟩
        · cases h2
      · cases h2

/-! ### while: so many turns at most -/
def whileB (c : M Bool) (body : B) : Nat → Ev → Option Out
  | 0, _ => none
  | n + 1, e => match c e with
    | none => none
    | some (false, e1) => some (.nx e1)
    | some (true, e1) => match body e1 with
      | some (.nx e2) => whileB c body n e2
      | some (.ct e2) => whileB c body n e2
      | some (.bk e2) => some (.nx e2)
      | some (.rt x e2) => some (.rt x e2)
      | none => none
def sWhile (fuel : Ev → Nat) (c : M Bool) (body : B) : B := fun e => whileB c body (fuel e) e
theorem sd_while {t : M Bool} {mb : B} {body : List Stmt} {fuel : Ev → Nat} (hp : PassesOwn (model X.prog X.w) X.A X.env X.xe) (hc : TD X ks ps c t) (hb : SsD X ks ps rk body mb) : SD X ks ps rk (.While c body [] pos) (sWhile fuel t mb) := PS.imp (ps_while hp hc hb) fun D σ H q => by
  obtain ⟨G, F, env, out, I, hm, q⟩ := q
  refine ⟨fun n σ' H' => ∃ F2 e2, Stp F H F2 H' ∧ EI X.K ks ps G F2 σ' H' e2 ∧ whileB t mb n e2 = some out, ⟨_, F, env, .refl, I, hm⟩, fun n σ' H' ⟨F2, e2, S2, I2, hl⟩ => ?_⟩
  cases n with
  | zero => cases hl
  | succ n =>
    unfold whileB at hl
    split at hl
    · cases hl
    · rename_i e3 h3
      cases hl
      exact ⟨G, F2, e2, false, e3, I2, h3, fun F3 H3 S3 I3 => iteF (q σ' F3 H3 (S2.trans S3) I3)⟩
    · rename_i e3 h3
      refine ⟨G, F2, e2, true, e3, I2, h3, fun F3 H3 S3 I3 => iteT ⟨fun σ4 H4 => ∃ F4 e4, Stp F H F4 H4 ∧ EI X.K ks ps G F4 σ4 H4 e4 ∧ whileB t mb n e4 = some out, fun σ4 H4 ⟨F4, e4, S4, I4, h4⟩ => ⟨n, Nat.lt_succ_self n, F4, e4, S4, I4, h4⟩, ?_⟩⟩
      have S23 := S2.trans S3
      split at hl
      · rename_i e5 h5
        exact ⟨G, F3, e3, _, I3, h5, fun σ5 F5 H5 S5 I5 => ⟨F5, e5, S23.trans S5, I5, hl⟩⟩
      · rename_i e5 h5
        exact ⟨G, F3, e3, _, I3, h5, fun σ5 F5 H5 S5 I5 => ⟨F5, e5, S23.trans S5, I5, hl⟩⟩
      · rename_i e5 h5
        cases hl
        exact ⟨G, F3, e3, _, I3, h5, fun σ5 F5 H5 S5 I5 => q σ5 F5 H5 (S23.trans S5) I5⟩
      · rename_i z e5 h5
        cases hl
        exact ⟨G, F3, e3, _, I3, h5, fun v σ5 F5 H5 Fr S5 I5 r5 n hF => q v σ5 F5 H5 Fr (S23.trans S5) I5 r5 n fun a ha => ⟨(hF a ha).1, S23.nw (hF a ha).2⟩⟩
      · cases hl
end
end DL

/-! DLE: comprehensions. -/
namespace DL
open PySem PySem.Spec PyProof.Rows L2
section
variable {rk : Kd} {X : Cx} {ks : List Kd} {ps : List (Nat × V)} {a b c e o i : Expr} {es : List Expr} {pos pos' : Pos}

def wipeE (e : Ev) : List Nat → Ev
  | [] => e
  | v :: vs => (wipeE e vs).set v none
def backE (e0 : Ev) (e : Ev) : List Nat → Ev
  | [] => e
  | v :: vs => (backE e0 e vs).set v (e0.getD v none)
theorem wipeE_len (e : Ev) : ∀ vs, (wipeE e vs).length = e.length
  | [] => rfl
  | v :: vs => by unfold wipeE; rw [List.length_set]; exact wipeE_len e vs
theorem backE_len (e0 e : Ev) : ∀ vs, (backE e0 e vs).length = e.length
  | [] => rfl
  | v :: vs => by unfold backE; rw [List.length_set]; exact backE_len e0 e vs
theorem wipeE_some {e : Ev} {i : Nat} {d : PyData} : ∀ {vs : List Nat}, (wipeE e vs)[i]? = some (some d) → e[i]? = some (some d) ∧ i ∉ vs
  | [], h => ⟨h, fun z => nomatch z⟩
  | v :: vs, h => by
    unfold wipeE at h
    rw [List.getElem?_set] at h
    by_cases hv : v = i
    · subst hv
      simp only [if_pos] at h
      split at h
      · exact absurd (Option.some.inj h) (fun z => nomatch z)
      · cases h
    · rw [if_neg hv] at h
      obtain ⟨h1, h2⟩ := wipeE_some h
      exact ⟨h1, fun z => (List.mem_cons.mp z).elim (fun z => hv z.symm) h2⟩
theorem backE_some {e0 e : Ev} {i : Nat} {d : PyData} : ∀ {vs : List Nat}, (backE e0 e vs)[i]? = some (some d) → (i ∈ vs ∧ e0[i]? = some (some d)) ∨ (i ∉ vs ∧ e[i]? = some (some d))
  | [], h => .inr ⟨(fun z => nomatch z), h⟩
  | v :: vs, h => by
    unfold backE at h
    rw [List.getElem?_set] at h
    by_cases hv : v = i
    · subst hv
      simp only [if_pos] at h
      split at h
      · have hd : e0.getD v none = some d := Option.some.inj h
        refine .inl ⟨List.mem_cons_self, ?_⟩
        rw [List.getD_eq_getElem?_getD] at hd
        cases q : e0[v]? with
        | none => rw [q] at hd; cases hd
        | some x => rw [q] at hd; exact congrArg some hd
      · cases h
    · rw [if_neg hv] at h
      rcases backE_some h with ⟨h1, h2⟩ | ⟨h1, h2⟩
      · exact .inl ⟨List.mem_cons_of_mem _ h1, h2⟩
      · exact .inr ⟨fun z => (List.mem_cons.mp z).elim (fun z => hv z.symm) h1, h2⟩

/-- the elements of a comprehension, the names of its own wiped at each turn's end -/
def compL (g : St1) (t : M Bool) (m : M PyData) (vs : List Nat) : List PyData → Ev → Option (List PyData × Ev)
  | [], e => some ([], e)
  | d :: r, e => match g d e with
    | none => none
    | some e1 => match t e1 with
      | none => none
      | some (false, e2) => compL g t m vs r (wipeE e2 vs)
      | some (true, e2) => match m e2 with
        | none => none
        | some (y, e3) => match compL g t m vs r (wipeE e3 vs) with
          | none => none
          | some (ys, e4) => some (y :: ys, e4)
def mComp (it : M (List PyData)) (g : St1) (t : M Bool) (m : M PyData) (vs : List Nat) : M PyData := fun e => match it e with
  | none => none
  | some (ds, e1) => if ds.length ≤ 1000000 then match compL g t m vs ds (wipeE e1 vs) with
    | none => none
    | some (ys, e2) => some (.list ys, backE e1 e2 vs)
    else none
def mYes : M Bool := ret true
theorem EI.wiped {K : PySem.W.Frag} {G : Addr → Prop} {F : List (List Addr)} {σ : L2.St} {H : Hp} {env : Ev} {vs : List Nat} (I : EI K ks ps G F σ H env) (hp : ∀ i ∈ vs, psOk ps i = true) : EI K ks ps G F (wipe σ vs) H (wipeE env vs) where
  lF := I.lF
  lE := by rw [wipeE_len]; exact I.lE
  lS := by rw [wipe_length]; exact I.lS
  nd := I.nd
  tr := I.tr
  gt := I.gt
  sl := fun j d kd h1 h2 => by
    obtain ⟨h1, hn⟩ := wipeE_some h1
    obtain ⟨v, Fi, e1, e2, o⟩ := I.sl j d kd h1 h2
    exact ⟨v, Fi, by rw [wipe_out hn]; exact e1, e2, o⟩
  pn := fun p hp' => by
    have hn : p.1 ∉ vs := fun z => psOk_ne (hp _ z) p hp' rfl
    rw [wipe_out hn]
    exact I.pn p hp'
  fz := I.fz
theorem wipe_wipe (σ : L2.St) (vs : List Nat) : wipe (wipe σ vs) vs = wipe σ vs := by
  refine List.ext_getElem? fun i => ?_
  by_cases hi : i ∈ vs
  · have aux : ∀ (ws : List Nat) (τ : L2.St), i ∈ ws → (wipe τ ws)[i]? = if i < τ.length then some none else none := by
      intro ws
      induction ws with
      | nil => intro τ h; exact nomatch h
      | cons w ws ih =>
        intro τ h
        unfold wipe
        rw [List.getElem?_set]
        by_cases hw : w = i
        · subst hw; simp [wipe_length]
        · rw [if_neg hw]; exact ih τ ((List.mem_cons.mp h).resolve_left fun z => hw z.symm)
    rw [aux vs _ hi, aux vs _ hi, wipe_length]
  · rw [wipe_out hi]
theorem wipe_same {σ σ2 : L2.St} {vs : List Nat} (h : wipe σ2 vs = wipe σ vs) {i : Nat} (hi : i ∉ vs) : σ2[i]? = σ[i]? := by
  have := congrArg (fun l => l[i]?) h
  simp only [wipe_out hi] at this
  exact this
/-- another slot list that is the same but for wiped slots -/
theorem EI.wipe2 {K : PySem.W.Frag} {G : Addr → Prop} {F : List (List Addr)} {σ σ2 : L2.St} {H : Hp} {env : Ev} {vs : List Nat} (I : EI K ks ps G F σ2 H env) (h : wipe σ2 vs = wipe σ vs) (hp : ∀ i ∈ vs, psOk ps i = true) : EI K ks ps G F (wipe σ vs) H (wipeE env vs) := by
  have := I.wiped hp
  rw [h] at this
  exact this
theorem EI.moreG {K : PySem.W.Frag} {G G' : Addr → Prop} {F : List (List Addr)} {σ : L2.St} {H H' : Hp} {env : Ev} (I : EI K ks ps G F σ H env) (sm : Same H H') (h : ∀ a, G' a → G a ∨ H a = none) (h2 : ∀ a, G' a → H' a ≠ none) : EI K ks ps G' F σ H' env where
  lF := I.lF
  lE := I.lE
  lS := I.lS
  nd := I.nd
  tr := fun a ha => by
    obtain ⟨t1, t2⟩ := I.tr a ha
    exact ⟨(Stp.same (F := F) sm).dom a t1, fun z => (h a z).elim t2 t1⟩
  gt := h2
  sl := fun j d kd h1 h3 => by
    obtain ⟨v, Fi, e1, e2, o⟩ := I.sl j d kd h1 h3
    exact ⟨v, Fi, e1, e2, o.kp ((Stp.same (F := F) sm).kp2 fun a z => (h a z).imp id .inr) fun a _ ob e => sm a ob e⟩
  pn := I.pn
  fz := I.fz
theorem EI.lessG {K : PySem.W.Frag} {G G' : Addr → Prop} {F : List (List Addr)} {σ : L2.St} {H : Hp} {env : Ev} (J : EI K ks ps G' F σ H env) (hG : ∀ a, G a → G' a) : EI K ks ps G F σ H env where
  lF := J.lF
  lE := J.lE
  lS := J.lS
  nd := J.nd
  tr := fun a ha => ⟨(J.tr a ha).1, fun z => (J.tr a ha).2 (hG a z)⟩
  gt := fun a ha => J.gt a (hG a ha)
  sl := fun j d kd h1 h2 => by
    obtain ⟨v, Fi, e1, e2, o⟩ := J.sl j d kd h1 h2
    exact ⟨v, Fi, e1, e2, o.kp (Kp.less fun a z => z.elim (fun z => .inl (hG a z)) .inr) fun a _ ob e => e⟩
  pn := J.pn
  fz := J.fz
theorem EI.back {K : PySem.W.Frag} {G G' : Addr → Prop} {F F' : List (List Addr)} {σ : L2.St} {H H' : Hp} {e0 e : Ev} {vs : List Nat} (I : EI K ks ps G F σ H e0) (J : EI K ks ps G' F' (wipe σ vs) H' e) (S : Stp F H F' H') (hG : ∀ a, G' a → G a ∨ H a = none) (hk : ∀ i ∈ vs, ks[i]? = some .frz) (hp : ∀ i ∈ vs, psOk ps i = true) :
    EI K ks ps G' F' σ H' (backE e0 e vs) where
  lF := J.lF
  lE := by rw [backE_len]; exact J.lE
  lS := I.lS
  nd := J.nd
  tr := J.tr
  gt := J.gt
  sl := fun j d kd h1 h2 => by
    rcases backE_some h1 with ⟨hj, h1⟩ | ⟨hj, h1⟩
    · have := hk j hj
      rw [h2] at this
      cases this
      obtain ⟨v, e1, r⟩ := I.at_frz h1 h2
      exact ⟨v, [], e1, J.fz j h2, rfl, Rep.kp (S.kp2 fun a z => (hG a z).imp id .inr) r⟩
    · obtain ⟨v, Fi, e1, e2, o⟩ := J.sl j d kd h1 h2
      rw [wipe_out hj] at e1
      exact ⟨v, Fi, e1, e2, o⟩
  pn := I.pn
  fz := J.fz
theorem Stp.put {F F' : List (List Addr)} {H H' : Hp} {D : Addr} {o : HO} (s : Stp F H F' H') (h : H D = none) : Stp F H F' (upd H' D o) where
  keep := fun a u e n => by rw [upd_ne (ne_of_none e h)]; exact s.keep a u e n
  dom := fun a e => by
    by_cases ha : a = D
    · subst ha; exact absurd h e
    · rw [upd_ne ha]; exact s.dom a e
  tup := fun a xs e => by rw [upd_ne (ne_of_none e h)]; exact s.tup a xs e
  frz := fun a u v e => by rw [upd_ne (ne_of_none e h)]; exact s.frz a u v e
  new := s.new
def plainO : HO → Prop
  | .tup _ => False
  | .frz _ _ => False
  | _ => True
/-- an address that is kept from being held is written -/
theorem Kp.put {O : Addr → Prop} {H : Hp} {D : Addr} {u0 o : HO} (h : O D) (hD : H D = some u0) (hu0 : plainO u0 := by trivial) : Kp O H O (upd H D o) where
  keep := fun a u e n => by
    have ha : a ≠ D := fun z => n (by rw [z]; exact h)
    exact ⟨by rw [upd_ne ha]; exact e, n⟩
  tup := fun a ys e => by
    have ha : a ≠ D := fun z => by rw [z, hD] at e; cases e; exact hu0
    rw [upd_ne ha]; exact e
  frz := fun a u v e => by
    have ha : a ≠ D := fun z => by rw [z, hD] at e; cases e; exact hu0
    rw [upd_ne ha]; exact e
theorem EI.put {K : PySem.W.Frag} {G : Addr → Prop} {F : List (List Addr)} {σ : L2.St} {H : Hp} {env : Ev} {D : Addr} {u0 o : HO} (I : EI K ks ps G F σ H env) (h : G D) (hD : H D = some u0) (hu0 : plainO u0 := by trivial) : EI K ks ps G F σ (upd H D o) env where
  lF := I.lF
  lE := I.lE
  lS := I.lS
  nd := I.nd
  tr := fun a ha => by
    obtain ⟨t1, t2⟩ := I.tr a ha
    have hn : a ≠ D := fun z => t2 (by rw [z]; exact h)
    exact ⟨by rw [upd_ne hn]; exact t1, t2⟩
  gt := fun a ha => by
    by_cases hn : a = D
    · subst hn; rw [upd_same]; simp
    · rw [upd_ne hn]; exact I.gt a ha
  sl := fun j d kd h1 h2 => by
    obtain ⟨v, Fi, e1, e2, o'⟩ := I.sl j d kd h1 h2
    refine ⟨v, Fi, e1, e2, o'.kp (Kp.put (.inl h) hD hu0) fun a ha ob e => ?_⟩
    have hn : a ≠ D := fun z => by
      have hm : a ∈ F.flatten := List.mem_flatten.mpr ⟨Fi, List.mem_of_getElem? e2, ha⟩
      exact (I.tr a hm).2 (by rw [z]; exact h)
    rw [upd_ne hn]; exact e
  pn := I.pn
  fz := I.fz

section
variable {G : Addr → Prop} {F : List (List Addr)} {σ : L2.St} {H : Hp} {env e1 e2 : Ev} {mi : M (List PyData)} {g : St1} {t : M Bool} {m : M PyData} {vs : List Nat} {ds ys : List PyData} {Q : VK}
theorem comp_core (I : EI X.K ks ps G F σ H env) (hl : ds.length ≤ 1000000) (h2 : compL g t m vs ds (wipeE e1 vs) = some (ys, e2)) (hk : ∀ i ∈ vs, ks[i]? = some .frz) (hp : ∀ i ∈ vs, psOk ps i = true)
    (q : ∀ D xs F' H', Stp F H F' H' → EI X.K ks ps (fun a => G a ∨ a = D) F' σ H' (backE e1 e2 vs) → H D = none → H' D = some (.lst xs) → RepA X.K H' (OO (fun a => G a ∨ a = D) F') ys xs → ¬ OO G F' D → Q (.ref D) H') {J : It} {F1 : List (List Addr)} {H1 : Hp} {Gd : Hp → Prop} {Y : Nat → Hp → V → Hp → Prop} (S1 : Stp F H F1 H1) (I1 : EI X.K ks ps G F1 σ H1 e1) (W : Walk J ds.length Gd Y) (hG : ∀ F2 H2, Stp F1 H1 F2 H2 → Gd H2)
    (hY : ∀ (G2 : Addr → Prop) i F2 H2 x H3 d, ds[i]? = some d → (∀ a, G2 a → G a ∨ H1 a = none) → Stp F1 H1 F2 H2 → (∀ a, OO G2 F2 a → H2 a ≠ none) → Y i H2 x H3 → Same H2 H3 ∧ Rep X.K H3 (OO G2 F2) d x) {D : Addr} (hD : H1 D = none) :
    ∃ W : Nat → Nat → Hp → Prop, (∃ m, W 0 m (upd H1 D (.lst []))) ∧ ∀ i m' H, W i m' H →
      (J.stop i H ∧ Q (.ref D) H) ∨ (J.go i H ∧ ∃ Nx : Hp → Prop, (∀ H', Nx H' → ∃ m2, m2 < m' ∧ W (i + 1) m2 H') ∧ ∀ x H', J.yld i H x H' → (tG X.K ks ps vs g) x (wipe σ vs) H' fun σ2 H2 => wipe σ2 vs = wipe σ vs ∧ (tT X.K ks ps t) σ2 H2 fun b H3 =>
        if b = true then (tD X.K ks ps m) σ2 H3 fun y H4 => ∃ acc, H4 D = some (.lst acc) ∧ acc.length < sizeLine ∧ Nx (upd H4 D (.lst (acc ++ [y]))) else Nx H3) := by
  let G' : Addr → Prop := fun a => G a ∨ a = D
  have hG' : ∀ a, G' a → G a ∨ H1 a = none := fun a z => z.elim .inl fun z => .inr (by rw [z]; exact hD)
  have sm0 : Same H1 (upd H1 D (.lst [])) := same_upd hD
  have I0 : EI X.K ks ps G' F1 (wipe σ vs) (upd H1 D (.lst [])) (wipeE e1 vs) := (I1.wiped hp).moreG sm0 hG' fun a z => by
    rcases z with z | z
    · exact (Stp.same (F := F1) sm0).dom a (I1.gt a z)
    · rw [z, upd_same]; simp
  have line : ∀ n : Nat, n ≤ 1000000 → n < sizeLine := fun n hn => Nat.lt_of_le_of_lt hn (by rw [sizeLine_eq]; decide)
  refine lc_it W (fun i H2 => ∃ F2 e3 acc accd rest, Stp F1 H1 F2 H2 ∧ EI X.K ks ps G' F2 (wipe σ vs) H2 e3 ∧ H2 D = some (.lst acc) ∧ RepA X.K H2 (OO G' F2) accd acc ∧ compL g t m vs (ds.drop i) e3 = some (rest, e2) ∧ accd ++ rest = ys ∧ acc.length ≤ i)
    ⟨F1, wipeE e1 vs, [], [], ys, Stp.refl.put hD, I0, upd_same, .nil, by simpa using h2, rfl, Nat.le_refl _⟩ (fun i H2 hi ⟨F2, e3, acc, accd, rest, S2, _⟩ => hG F2 H2 S2) (fun i x H2 H3 hi ⟨F2, e3, acc, accd, rest, S2, I2, eD, ra, hc, ea, hn⟩ y => ?_) (fun H2 ⟨F2, e3, acc, accd, rest, S2, I2, eD, ra, hc, ea, hn⟩ => ?_)
  · have hd : ds.drop i = ds[i] :: ds.drop (i + 1) := List.drop_eq_getElem_cons hi
    obtain ⟨sm, rx⟩ := hY G' i F2 H2 x H3 _ (List.getElem?_eq_getElem hi) hG' S2 I2.oo y
    rw [hd] at hc
    unfold compL at hc
    split at hc
    · cases hc
    · rename_i e4 h4
      refine ⟨G', F2, e3, ds[i], e4, I2.same sm, rx, h4, fun σ4 F4 H4 w4 S4 I4 => ⟨?_, ?_⟩⟩
      · rw [w4]
        exact wipe_wipe σ vs
      have S24 : Stp F2 H2 F4 H4 := (Stp.same sm).trans S4
      have ndD : ∀ {F5 : List (List Addr)} {σ5 : L2.St} {H5 : Hp} {e5 : Ev}, EI X.K ks ps G' F5 σ5 H5 e5 → D ∉ F5.flatten := fun J z => (J.tr D z).2 (.inr rfl)
      have wσ : wipe σ4 vs = wipe σ vs := w4.trans (wipe_wipe σ vs)
      split at hc
      · cases hc
      · rename_i e5 h5
        refine ⟨G', F4, e4, false, e5, I4, h5, fun F5 H5 S5 I5 => iteF ?_⟩
        have S25 := S24.trans S5
        exact ⟨F5, wipeE e5 vs, acc, accd, rest, S2.trans S25, I5.wipe2 wσ hp, S25.keep D _ eD (ndD I2), RepA.kp S25.kp ra, hc, ea, by omega⟩
      · rename_i e5 h5
        split at hc
        · cases hc
        · rename_i z e6 h6
          split at hc
          · cases hc
          · rename_i zs e7 h7
            cases hc
            refine ⟨G', F4, e4, true, e5, I4, h5, fun F5 H5 S5 I5 => iteT ⟨G', F5, e5, z, e6, I5, h6, fun v F6 H6 S6 I6 r6 => ?_⟩⟩
            have S26 := (S24.trans S5).trans S6
            have eD6 : H6 D = some (.lst acc) := S26.keep D _ eD (ndD I2)
            have hGD : OO G' F6 D := .inl (.inr rfl)
            refine ⟨acc, eD6, line _ (by have := List.length_drop (i := i) (l := ds); omega), F6, wipeE e6 vs, acc ++ [v], accd ++ [z], zs, (S2.trans S26).put hD, (I6.wipe2 wσ hp).put (.inr rfl) eD6, upd_same, ?_, h7, by rw [List.append_assoc]; exact ea, by rw [List.length_append]; simp only [List.length_cons, List.length_nil]; omega⟩
            exact (RepA.kp (Kp.put hGD eD6) (RepA.kp S26.kp ra)).append (.cons (Rep.kp (Kp.put hGD eD6) r6) .nil)
  · rw [List.drop_length] at hc
    unfold compL at hc
    cases hc
    rw [List.append_nil] at ea
    subst ea
    have hDn : H D = none := by
      cases z : H D with
      | none => rfl
      | some o => exact absurd hD (S1.dom D (by rw [z]; simp))
    exact q D acc F2 H2 (S1.trans S2) (I1.back I2 S2 hG' hk hp) hDn eD ra fun z => z.elim (fun z => I1.gt D z hD) fun z => (I2.tr D z).2 (.inr rfl)
end
theorem comp_read (I : EI X.K ks ps G F σ H env) (h1 : mi env = some (ds, e1)) (hl : ds.length ≤ 1000000) (h2 : compL g t m vs ds (wipeE e1 vs) = some (ys, e2)) (hk : ∀ i ∈ vs, ks[i]? = some .frz) (hp : ∀ i ∈ vs, psOk ps i = true)
    (q : ∀ D xs F' H', Stp F H F' H' → EI X.K ks ps (fun a => G a ∨ a = D) F' σ H' (backE e1 e2 vs) → H D = none → H' D = some (.lst xs) → RepA X.K H' (OO (fun a => G a ∨ a = D) F') ys xs → ¬ OO G F' D → Q (.ref D) H') :
    tLc (tI X.K ks ps mi) (tG X.K ks ps vs g) (tT X.K ks ps t) (tD X.K ks ps m) vs σ H Q :=
  ⟨G, F, env, ds, e1, I, h1, fun J F1 H1 Gd Y S1 I1 W hG hY D hD => comp_core I hl h2 hk hp q S1 I1 W hG hY hD⟩
theorem mComp_some {it : M (List PyData)} {g : St1} {t : M Bool} {m : M PyData} {vs : List Nat} {e e' : Ev} {d : PyData} (h : mComp it g t m vs e = some (d, e')) : ∃ ds e1 ys e2, it e = some (ds, e1) ∧ ds.length ≤ 1000000 ∧ compL g t m vs ds (wipeE e1 vs) = some (ys, e2) ∧ d = .list ys ∧ e' = backE e1 e2 vs := by
  unfold mComp at h
  split at h
  · cases h
  · rename_i ds e1 h1
    split at h
    · rename_i hl
      split at h
      · cases h
      · rename_i ys e2 h2
        cases h
        exact ⟨ds, e1, ys, e2, h1, hl, h2, rfl, rfl⟩
    · cases h
def frzAll (ks : List Kd) (ps : List (Nat × V)) (vs : List Nat) : Bool := vs.all fun i => decide (ks[i]? = some .frz) && psOk ps i
theorem frzAll_k {vs : List Nat} (h : frzAll ks ps vs = true) : (∀ i ∈ vs, ks[i]? = some .frz) ∧ ∀ i ∈ vs, psOk ps i = true := by
  unfold frzAll at h
  rw [List.all_eq_true] at h
  exact ⟨fun i hi => by have := h i hi; rw [Bool.and_eq_true, decide_eq_true_eq] at this; exact this.1, fun i hi => by have := h i hi; rw [Bool.and_eq_true] at this; exact this.2⟩
theorem ed_comp {elt tg it : Expr} {ifs : List Expr} {scope : Scope} {own : List (Str × Nat)} {mi : M (List PyData)} {g : St1} {t : M Bool} {m : M PyData} (hc : X.calm = true) (hN : X.N.Nodup) (hi : ID X ks ps tg it mi) (ok : BlkOk X.N X.env.scope scope own)
    (hg : ∀ (s : Shared) (H : Hp) (C : Addr) (cl : List (Str × Addr)) (fp : List Addr), GD (X.blk s H scope (compEnvC scope cl C X.env) fp) ks ps (own.map (·.2)) tg g)
    (ht : ∀ (s : Shared) (H : Hp) (C : Addr) (cl : List (Str × Addr)) (fp : List Addr), PTs (X.blk s H scope (compEnvC scope cl C X.env) fp) ifs (tT X.K ks ps t))
    (he : ∀ (s : Shared) (H : Hp) (C : Addr) (cl : List (Str × Addr)) (fp : List Addr), ED (X.blk s H scope (compEnvC scope cl C X.env) fp) ks ps elt m)
    (hp : frzAll ks ps (own.map (·.2)) = true)
    (hs : ∀ x, foldedSetIterable it X.env x = pure x := by intro _; rfl) : ED X ks ps (.ListComp elt [⟨tg, it, ifs, 0⟩] scope pos) (mComp mi g t m (own.map (·.2))) :=
  PE.imp (pe_lc hc hN hi ok hg ht he hs) fun σ H Q q => by
    obtain ⟨G, F, env, d, env', I, hm, q⟩ := q
    obtain ⟨ds, e1, ys, e2, h1, hl, h2, rfl, rfl⟩ := mComp_some hm
    obtain ⟨hk, hp⟩ := frzAll_k hp
    refine comp_read I h1 hl h2 hk hp fun D xs F' H' S J hD eD ra nO => q _ F' H' S (J.lessG fun _ z => .inl z) ?_
    simp only [Rep]
    exact ⟨D, xs, rfl, LstAt.rd (.inl eD) nO, RepA.kp (Kp.less fun a z => z.elim (fun z => .inl (.inl z)) .inr) ra⟩
theorem ptd_nil : PTs X [] (tT X.K ks ps mYes) := ⟨fun pins s σ H Q I q => by
  obtain ⟨G, F, env, b, env', J, hm, q⟩ := q
  cases hm
  exact pts_nil.run pins s σ H Q I (q F H .refl J)⟩
theorem ptd_one {t : M Bool} (h : TD X ks ps c t) : PTs X [c] (tT X.K ks ps t) := pts_one h
/-- name = [..] where the name is a local and both stand on one line -/
theorem sd_setLc {j : Nat} {y : Str} {py spos : Pos} {elt tg it : Expr} {ifs : List Expr} {scope : Scope} {own : List (Str × Nat)} {mi : M (List PyData)} {g : St1} {t : M Bool} {m : M PyData} (hc : X.calm = true) (hN : X.N.Nodup) (hy : X.N[j]? = some y) (hyl : X.env.scope.names.lookup y = some .local)
    (hk : ks[j]? = some .frz) (hpj : psOk ps j = true)
    (hsw : swapsWith (.ListComp elt [⟨tg, it, ifs, 0⟩] scope pos) (some (.Name y py)) spos.line X.env = pure true) (hi : ID X ks ps tg it mi) (ok : BlkOk X.N X.env.scope scope own)
    (hg : ∀ (s : Shared) (H : Hp) (C : Addr) (cl : List (Str × Addr)) (fp : List Addr), GD (X.blk s H scope (compEnvC scope cl C X.env) fp) ks ps (own.map (·.2)) tg g)
    (ht : ∀ (s : Shared) (H : Hp) (C : Addr) (cl : List (Str × Addr)) (fp : List Addr), PTs (X.blk s H scope (compEnvC scope cl C X.env) fp) ifs (tT X.K ks ps t))
    (he : ∀ (s : Shared) (H : Hp) (C : Addr) (cl : List (Str × Addr)) (fp : List Addr), ED (X.blk s H scope (compEnvC scope cl C X.env) fp) ks ps elt m)
    (hp : frzAll ks ps (own.map (·.2)) = true)
    (hs : ∀ x, foldedSetIterable it X.env x = pure x := by intro _; rfl) : SD X ks ps rk (.Assign [.Name y py] (.ListComp elt [⟨tg, it, ifs, 0⟩] scope pos) spos) (sAsg (mComp mi g t m (own.map (·.2))) (gNm j)) :=
  PS.imp (ps_setLc hc hN hy hyl hsw hi ok hg ht he hs) fun D σ H q => by
    obtain ⟨G, F, env, out, I, hm, q⟩ := q
    obtain ⟨d, e1, e2, h1, h2, rfl⟩ := sAsg_some hm
    cases h2
    obtain ⟨ds, e3, ys, e4, h3, hl, h4, rfl, rfl⟩ := mComp_some h1
    obtain ⟨hk', hp⟩ := frzAll_k hp
    refine comp_read (Q := fun x H1 => gName j x σ H1 D.nx) I h3 hl h4 hk' hp fun L xs F' H' S J hD eD ra nO => q _ F' H' S ((J.lessG fun _ z => .inl z).set_frz hk (psOk_ne hpj) ?_)
    simp only [Rep]
    exact ⟨L, xs, rfl, LstAt.rd (.inl eD) nO, RepA.kp (Kp.less fun a z => z.elim (fun z => .inl (.inl z)) .inr) ra⟩
end
end DL

/-! DLF: defs as functions of data; their calls. -/
namespace DL
open PySem PySem.Spec PyProof.Rows L2

/-- a def's promise where no repr is under way -/
structure FnG (P : Program) (w : World) (K : PySem.W.Frag) (mg : Str → Option Value) (base : Heap) (CX : CXT) (k : Nat) (f : Addr) (fd : FuncData) (ps : List Str) (sp : Sp) : Prop where
  len : ∀ vs H Q E, sp vs H Q E → vs.length = ps.length
  run : ∀ (A : Around) (outer : List Env) (s : Shared) (H : Hp) (args : Args) (us : List Value) (vs : List V) (Q : VK) (E : XK), Room k A → A.guards = some [] →
    Env0 P w K mg base A outer s H → BindsTo s fd args (ps.zip us) → Vals vs us → sp vs H Q E → codeAny (model P w) A (.call (.ref f) args) (CR CX outer P w H s Q E) s
section
variable {P : Program} {w : World} {K : PySem.W.Frag} {mg : Str → Option Value} {base : Heap} {CX : CXT} {j k : Nat} {f : Addr} {fd : FuncData} {ps : List Str} {sp : Sp}
theorem FnG.up (F : FnG P w K mg base CX j f fd ps sp) (h : j ≤ k) : FnG P w K mg base CX k f fd ps sp where
  len := F.len
  run := fun A outer s H args us vs Q E hr hg e0 hb hv hs => F.run A outer s H args us vs Q E (hr.mono h) hg e0 hb hv hs
theorem FnG.weak {sp' : Sp} (F : FnG P w K mg base CX k f fd ps sp) (h : ∀ vs H Q E, sp' vs H Q E → sp vs H Q E) : FnG P w K mg base CX k f fd ps sp' where
  len := fun vs H Q E q => F.len vs H Q E (h _ _ _ _ q)
  run := fun A outer s H args us vs Q E hr hg e0 hb hv hs => F.run A outer s H args us vs Q E hr hg e0 hb hv (h _ _ _ _ hs)
/-- by the body -/
theorem FnG.of_body {x qual : Str} {st : Stmt} {N : List Str} (F : Fun K x qual st f fd) (S : FnScope N ps (defScope st)) (len : ∀ vs H Q E, sp vs H Q E → vs.length = ps.length)
    (body : ∀ (cdv : Value) (A : Around) (outer : List Env) (s : Shared) (H : Hp) (vs : List V) (Q : VK) (E : XK), Room k (A.deeper (envOfC qual (defScope st) s.heap.objs.size f cdv)) → A.guards = some [] → sp vs H Q E →
      ∃ t, PSs (cxOf CX P w K mg base N qual (defScope st) f cdv A outer s H E) (defBody st) t ∧ t { nx := fun _ H' => Q .non H', rt := Q } (start N vs) H) : FnG P w K mg base CX (k + 1) f fd ps sp := by
  obtain ⟨oc, od, kV, doc, pm, an, cdv, ct, osl, efd, lk, hcd⟩ := F.ex
  subst efd
  constructor
  · exact len
  intro A outer s H args us vs Q E room hg e0 bind rel hsp
  have inK : K.In s.heap := e0.mod.kin.keeps fun b o e => (e0.bs b o e).1
  have nol : s.heap.NoLimit := e0.mod.nolimit.keeps fun b o e => (e0.bs b o e).1
  have kinds : ∀ y ∈ ps.zip us, (defScope st).names.lookup y.1 = some .local ∨ ((defScope st).names.lookup y.1 = some .cell ∧ ((cellsFrom (s.heap.objs.size + 1) (defScope st).names []).lookup y.1).isSome = true) := by
    rintro ⟨n, v⟩ hy
    rcases S.par n (List.of_mem_zip hy).1 with q | q
    · exact Or.inl q
    · exact Or.inr ⟨q, PySem.W.cellsFrom_some _ _ _ (Or.inl q)⟩
  refine codeAny_call_function room.depth (inK _ _ lk) rfl S.co S.gen rfl (PySem.W.codeRec_of inK hcd) (bind _ _ _ _ (wpAny_newFunctionEnv_cells S.kind kinds ?_))
  intro env he s1 x
  subst he
  refine ⟨nol.keeps x.toInCall.keep, codeAny_func ?_⟩
  obtain ⟨t, ht, hq⟩ := body cdv A outer s H vs Q E (room.deeper _) hg hsp
  have I := inv_start (CX := CX) (E := E) S room.hd e0 (len _ _ _ _ hsp) rel x
  refine wpAny_mono (ht.run [] s1 (start N vs) H _ I hq) (fun fl s' hs => ?_) fun e s' hs => hs
  cases fl with
  | ret u =>
    obtain ⟨v, σ', H', J, rv, q⟩ := hs
    exact ⟨v, H', J.os, J.bare, J.base, J.hok, rv, q⟩
  | next =>
    obtain ⟨σ', H', J, q⟩ := hs
    exact ⟨V.non, H', J.os, J.bare, J.base, J.hok, (show Value.none = Value.none from rfl), q⟩
  | brk => exact (hs.elim fun _ h => h.elim fun _ h => h.2).elim
  | cont => exact (hs.elim fun _ h => h.elim fun _ h => h.2).elim
end
section
variable {X : Cx} {CX : CXT} {k : Nat} {f : Addr} {fd : FuncData} {ps : List Str} {sp : Sp} {E : XK} {x : Str} {p pos : Pos} {e : Expr} {es : List Expr} {t : TA}
theorem FnG.at {pins : List (Addr × Obj)} {σ : L2.St} {H : Hp} {s : Shared} {Q : VK} {us : List Value} {vs : List V} (F : FnG X.prog X.w X.K X.mg X.base CX k f fd ps sp) (hr : Room k X.A) (hg : X.A.guards = some []) (hb : Binds X.K fd ps []) (hx : Passes CX X E)
    (I : Inv X pins σ H s) (r : Vals vs us) (h : sp vs H Q E) : wpAny (model X.prog X.w) X.A (call (.ref f) us) (EP X pins σ Q) X.xe s := by
  have hl : us.length = ps.length := by rw [← r.length]; exact F.len _ _ _ _ h
  have hbt : BindsTo s fd ⟨us, []⟩ (ps.zip us) := by
    have := hb s us I.kIn (by rw [List.append_nil]; exact hl)
    rwa [List.append_nil] at this
  refine wpAny_call (codeAny_mono (F.run X.A X.stack s H ⟨us, []⟩ us vs Q E hr hg I.env0 hbt r h) ?_)
  intro res s' hq
  match res, hq with
  | .error e, hq => exact hx pins σ H s e s' I hq
  | .ok (.ret u), hq => exact I.after hq
  | .ok .next, hq => exact False.elim hq
  | .ok .brk, hq => exact False.elim hq
  | .ok .cont, hq => exact False.elim hq
theorem pg_call (F : FnG X.prog X.w X.K X.mg X.base CX k f fd ps sp) (hr : Room k X.A) (hgd : X.A.guards = some []) (hg : Gl X x) (hm : X.mg x = some (.ref f)) (hk : PySem.W.keepIn X.K (.ref f) = true) (hb : Binds X.K fd ps []) (hx : Passes CX X E)
    (ha : PA X (e :: es) t) (hdb : (x == ("__debug__" : Str)) = false := by decide) (he : starEach (e :: es) X.env = (false, eval e X.env) :: starEach es X.env := by rfl) (hpl : (backTo pos (starEach es X.env)).any (·.1) = false := by rfl) :
    PE X (.Call (.Name x p) (e :: es) [] pos) (fun σ H Q => t σ H fun vs H1 => sp vs H1 Q E) := by
  constructor
  intro pins s σ H Q I h
  refine wpAny_Call_Name_kw (ld_glob I hg hm (PySem.W.callWith_K (h₀ := X.base) I.ok.mod.kin hk (thn (ha.run pos pins s σ H _ I h) ?_) he hpl) hdb)
  rintro us s1 ⟨vs, H1, I1, r, q⟩
  exact ⟨I1.kIn, F.at hr hgd hb hx I1 r q⟩
theorem pg_call0 (F : FnG X.prog X.w X.K X.mg X.base CX k f fd ps sp) (hr : Room k X.A) (hgd : X.A.guards = some []) (hg : Gl X x) (hm : X.mg x = some (.ref f)) (hk : PySem.W.keepIn X.K (.ref f) = true) (hb : Binds X.K fd ps []) (hx : Passes CX X E)
    (hdb : (x == ("__debug__" : Str)) = false := by decide) : PE X (.Call (.Name x p) [] [] pos) (fun σ H Q => sp [] H Q E) := by
  constructor
  intro pins s σ H Q I h
  exact wpAny_Call_Name_kw (ld_glob I hg hm (PySem.W.callWith_K0 I.kIn hk (F.at (us := []) hr hgd hb hx I .nil h)) hdb)
end

/-! ### promises over data -/
/-- the parameters' kinds pk; what comes back is of the kind rk; mf: from the parameters' data to what comes back and the parameters' data behind -/
def spD (K : PySem.W.Frag) (pk : List Kd) (rk : Kd) (mf : List PyData → Option (PyData × List PyData)) : Sp := fun vs H Q _ => vs.length = pk.length ∧ ∃ G F ds d outs, EI K pk [] G F (vs.map some) H (ds.map some) ∧ mf ds = some (d, outs) ∧
  ∀ v F' H' Fr, Stp F H F' H' → EI K pk [] (fun a => G a ∨ a ∈ Fr) F' (vs.map some) H' (outs.map some) → OwnAt K H' (OO (fun a => G a ∨ a ∈ Fr) F') rk Fr d v → Fr.Nodup → (∀ a ∈ Fr, ¬ G a ∧ (a ∈ F.flatten ∨ H a = none)) → Q v H'
/-- a def that keeps a promise over data -/
def FnD (P : Program) (w : World) (K : PySem.W.Frag) (mg : Str → Option Value) (base : Heap) (k : Nat) (x : Str) (pk : List Kd) (rk : Kd) (mf : List PyData → Option (PyData × List PyData)) : Prop :=
  ∃ f fd ps, FnG P w K mg base CX0 k f fd ps (spD K pk rk mf) ∧ mg x = some (.ref f) ∧ PySem.W.keepIn K (.ref f) = true ∧ Binds K fd ps []
theorem FnD.up {P : Program} {w : World} {K : PySem.W.Frag} {mg : Str → Option Value} {base : Heap} {j k : Nat} {x : Str} {pk : List Kd} {rk : Kd} {mf : List PyData → Option (PyData × List PyData)} (F : FnD P w K mg base j x pk rk mf) (h : j ≤ k) : FnD P w K mg base k x pk rk mf := by
  obtain ⟨f, fd, ps, h1, h2, h3, h4⟩ := F
  exact ⟨f, fd, ps, h1.up h, h2, h3, h4⟩
/-- a weaker function: where mf' tells, mf tells the same -/
theorem FnD.weak {P : Program} {w : World} {K : PySem.W.Frag} {mg : Str → Option Value} {base : Heap} {k : Nat} {x : Str} {pk : List Kd} {rk : Kd} {mf mf' : List PyData → Option (PyData × List PyData)} (F : FnD P w K mg base k x pk rk mf) (h : ∀ ds r, mf' ds = some r → mf ds = some r) : FnD P w K mg base k x pk rk mf' := by
  obtain ⟨f, fd, ps, h1, h2, h3, h4⟩ := F
  refine ⟨f, fd, ps, h1.weak fun vs H Q E q => ?_, h2, h3, h4⟩
  obtain ⟨hl, G, F, ds, d, outs, I, hm, q⟩ := q
  exact ⟨hl, G, F, ds, d, outs, I, h _ _ hm, q⟩

/-- the parameters' data behind a def: what isn't owned is as it was -/
def outsOf : List Kd → List PyData → Ev → Option (List PyData)
  | [], [], _ => some []
  | .frz :: ks, d :: ds, _ :: e => (outsOf ks ds e).map (d :: ·)
  | _ :: ks, _ :: ds, some y :: e => (outsOf ks ds e).map (y :: ·)
  | _, _, _ => none
def finB (pk : List Kd) (ds : List PyData) (d : PyData) (e : Ev) : Option (PyData × List PyData) := (outsOf pk ds e).map fun outs => (d, outs)
/-- the def as a function of data: n names in all -/
def mDef (rk : Kd) (pk : List Kd) (n : Nat) (mb : B) (ds : List PyData) : Option (PyData × List PyData) :=
  match mb (ds.map some ++ List.replicate (n - ds.length) none) with
  | some (.rt d e) => finB pk ds d e
  | some (.nx e) => if rk = .frz then finB pk ds .none e else none
  | _ => none
theorem outsOf_get : ∀ {pk : List Kd} {ds : List PyData} {e : Ev} {outs : List PyData}, outsOf pk ds e = some outs → outs.length = pk.length ∧ ds.length = pk.length ∧ ∀ (i : Nat) d kd, outs[i]? = some d → pk[i]? = some kd → (kd = .frz ∧ ds[i]? = some d) ∨ (kd ≠ .frz ∧ e[i]? = some (some d))
  | [], [], _, outs, h => by
    unfold outsOf at h
    cases h
    exact ⟨rfl, rfl, fun i d kd h => by simp at h⟩
  | [], _ :: _, _, _, h => by unfold outsOf at h; cases h
  | k :: pk, [], _, _, h => by cases k <;> (unfold outsOf at h; cases h)
  | k :: pk, d :: ds, [], _, h => by cases k <;> (unfold outsOf at h; cases h)
  | k :: pk, d :: ds, y :: e, outs, h => by
    by_cases hk : k = .frz
    · subst hk
      unfold outsOf at h
      obtain ⟨os, h1, rfl⟩ := Option.map_eq_some_iff.mp h
      obtain ⟨l1, l2, g⟩ := outsOf_get h1
      refine ⟨by simp [l1], by simp [l2], fun i d' kd e1 e2 => ?_⟩
      cases i with
      | zero => simp at e1 e2; subst e1; subst e2; exact .inl ⟨rfl, rfl⟩
      | succ i => simpa using g i d' kd (by simpa using e1) (by simpa using e2)
    · cases y with
      | none => cases k <;> first | exact absurd rfl hk | (unfold outsOf at h; cases h)
      | some z =>
        have h' : outsOf (k :: pk) (d :: ds) (some z :: e) = (outsOf pk ds e).map (z :: ·) := by
          cases k <;> first | exact absurd rfl hk | rfl
        rw [h'] at h
        obtain ⟨os, h1, rfl⟩ := Option.map_eq_some_iff.mp h
        obtain ⟨l1, l2, g⟩ := outsOf_get h1
        refine ⟨by simp [l1], by simp [l2], fun i d' kd e1 e2 => ?_⟩
        cases i with
        | zero => simp at e1 e2; subst e1; subst e2; exact .inr ⟨hk, rfl⟩
        | succ i => simpa using g i d' kd (by simpa using e1) (by simpa using e2)
/-- what the own parameters hold stays in their slots -/
def pinsOf (own : List Nat) (vs : List V) : List (Nat × V) := own.filterMap fun i => (vs[i]?).map fun v => (i, v)

section
variable {P : Program} {w : World} {K : PySem.W.Frag} {mg : Str → Option Value} {base : Heap} {k : Nat} {f : Addr} {fd : FuncData}
theorem flat_pad {F : List (List Addr)} {n : Nat} {a : Addr} : a ∈ (F ++ List.replicate n []).flatten ↔ a ∈ F.flatten := by
  rw [List.flatten_append, List.mem_append]
  constructor
  · rintro (h | h)
    · exact h
    · obtain ⟨l, h1, h2⟩ := List.mem_flatten.mp h
      rw [List.mem_replicate] at h1
      rw [h1.2] at h2
      cases h2
  · exact .inl
theorem EI.start {ks : List Kd} {ps : List (Nat × V)} {pk : List Kd} {G : Addr → Prop} {F : List (List Addr)} {H : Hp} {vs : List V} {ds : List PyData} {n : Nat} {N : List Str} (I : EI K pk [] G F (vs.map some) H (ds.map some)) (hn : N.length = n) (hks : ks.length = n) (htk : ks.take pk.length = pk)
    (hps : ∀ p ∈ ps, vs[p.1]? = some p.2) : EI K ks ps G (F ++ List.replicate (n - ds.length) []) (start N vs) H (ds.map some ++ List.replicate (n - ds.length) none) := by
  have lF := I.lF
  have lE : ds.length = pk.length := by have := I.lE; simpa using this
  have lS : vs.length = pk.length := by have := I.lS; simpa using this
  have hle : pk.length ≤ n := by have := congrArg List.length htk; rw [List.length_take] at this; omega
  have kget : ∀ {i : Nat} {kd : Kd}, ks[i]? = some kd → i < pk.length → pk[i]? = some kd := fun {i kd} h hi => by
    rw [← htk, List.getElem?_take, if_pos hi]; exact h
  refine ⟨by simp; omega, by simp; omega, by unfold L2.start; simp; omega, ⟨fun i Fi e => ?_, fun i j Fi Fj a e1 e2 m1 m2 => ?_⟩, fun a ha => I.tr a (flat_pad.mp ha), I.gt, fun i d kd h1 h2 => ?_, fun p hp => ?_, fun i h => ?_⟩
  · by_cases hi : i < F.length
    · rw [List.getElem?_append_left hi] at e
      exact I.nd.own i Fi e
    · rw [List.getElem?_append_right (by omega), List.getElem?_replicate] at e
      split at e
      · cases e; exact List.nodup_nil
      · cases e
  · have at_ : ∀ {i : Nat} {Fi : List Addr}, (F ++ List.replicate (n - ds.length) [])[i]? = some Fi → a ∈ Fi → F[i]? = some Fi := fun {i Fi} e m => by
      by_cases hi : i < F.length
      · rwa [List.getElem?_append_left hi] at e
      · rw [List.getElem?_append_right (by omega), List.getElem?_replicate] at e
        split at e
        · cases e; cases m
        · cases e
    exact I.nd.apart i j Fi Fj a (at_ e1 m1) (at_ e2 m2) m1 m2
  · have hi : i < ds.length := by
      by_cases hi : i < ds.length
      · exact hi
      · rw [List.getElem?_append_right (by simp; omega), List.getElem?_replicate] at h1
        split at h1 <;> first | exact nomatch (Option.some.inj h1) | exact nomatch h1
    rw [List.getElem?_append_left (by simpa using hi)] at h1
    obtain ⟨v, Fi, e1, e2, o⟩ := I.sl i d kd h1 (kget h2 (by omega))
    refine ⟨v, Fi, ?_, by rw [List.getElem?_append_left (by omega)]; exact e2, o.kp (Kp.less fun a z => z.elim .inl fun z => .inr (flat_pad.mp z)) fun a _ ob e => e⟩
    unfold L2.start
    rw [List.getElem?_append_left (by simp; omega)]
    exact e1
  · have := hps p hp
    unfold L2.start
    rw [List.getElem?_append_left (by simp; exact (List.getElem?_eq_some_iff.mp this).1), List.getElem?_map, this]
    rfl
  · by_cases hi : i < pk.length
    · rw [List.getElem?_append_left (by omega)]
      exact I.fz i (kget h hi)
    · have : i < n := by rw [← hks]; exact (List.getElem?_eq_some_iff.mp h).1
      rw [List.getElem?_append_right (by omega), List.getElem?_replicate, if_pos (by omega)]
theorem Dis.nil {F : List (List Addr)} (D : Dis F) : Dis (F ++ [[]]) := by
  have at_ : ∀ {i : Nat} {Fi : List Addr}, (F ++ [[]])[i]? = some Fi → F[i]? = some Fi ∨ Fi = [] := fun {i Fi} e => by
    by_cases hi : i < F.length
    · rw [List.getElem?_append_left hi] at e
      exact .inl e
    · rw [List.getElem?_append_right (by omega)] at e
      cases h : i - F.length with
      | zero => rw [h] at e; simp at e; exact .inr e
      | succ n => rw [h] at e; simp at e
  refine ⟨fun i Fi e => ?_, fun i j Fi Fj a e1 e2 m1 m2 => ?_⟩
  · rcases at_ e with e | e
    · exact D.own i Fi e
    · subst e; exact List.nodup_nil
  · rcases at_ e1 with e1 | e1
    · rcases at_ e2 with e2 | e2
      · exact D.apart i j Fi Fj a e1 e2 m1 m2
      · subst e2; cases m2
    · subst e1; cases m1
/-- a def by its body, as a function of data; own: the parameters that are owned -/
theorem FnD.of_body {rk : Kd} {x qual xm : Str} {st : Stmt} {N ps : List Str} {pk ks : List Kd} {own : List Nat} {mb : B} (F : Fun K x qual st f fd) (hm : mg xm = some (.ref f)) (hb : Binds K fd ps []) (S : FnScope N ps (defScope st)) (hpk : pk.length = ps.length) (hks : ks.length = N.length)
    (htk : ks.take pk.length = pk) (hown : ∀ (i : Nat) kd, pk[i]? = some kd → kd ≠ .frz → i ∈ own)
    (body : ∀ (cdv : Value) (A : Around) (outer : List Env) (s : Shared) (H : Hp) (E : XK) (vs : List V), Room k (A.deeper (envOfC qual (defScope st) s.heap.objs.size f cdv)) → (A.deeper (envOfC qual (defScope st) s.heap.objs.size f cdv)).guards = some [] → vs.length = ps.length →
      SsD (cxOf CX0 P w K mg base N qual (defScope st) f cdv A outer s H E).nox ks (pinsOf own vs) rk (defBody st) mb) : FnD P w K mg base (k + 1) xm pk rk (mDef rk pk N.length mb) := by
  refine ⟨f, fd, ps, FnG.of_body F S (fun vs H Q E h => by rw [h.1, hpk]) (fun cdv A outer s H vs Q E room hg h => ?_), hm, F.kp, hb⟩
  obtain ⟨hl, G, Fp, ds, d, outs, I, hmf, q⟩ := h
  have hl2 : vs.length = ps.length := by rw [hl, hpk]
  refine ⟨_, PSs.nox (body cdv A outer s H E vs room hg hl2), ?_⟩
  have hps : ∀ p ∈ pinsOf own vs, vs[p.1]? = some p.2 := fun p hp => by
    obtain ⟨i, _, e⟩ := List.mem_filterMap.mp hp
    obtain ⟨v, e1, e2⟩ := Option.map_eq_some_iff.mp e
    subst e2
    exact e1
  have lE : ds.length = pk.length := by have := I.lE; simpa using this
  have hle : pk.length ≤ ks.length := by have := congrArg List.length htk; rw [List.length_take] at this; omega
  have I0 := EI.start (ks := ks) (ps := pinsOf own vs) (n := N.length) (N := N) I rfl hks htk hps
  unfold mDef at hmf
  have fin : ∀ {v : V} {σ' : L2.St} {F' : List (List Addr)} {H' : Hp} {e : Ev} {d' : PyData} {Fr : List Addr}, finB pk ds d' e = some (d, outs) → Stp (Fp ++ List.replicate (N.length - ds.length) []) H F' H' → EI K ks (pinsOf own vs) (fun a => G a ∨ a ∈ Fr) F' σ' H' e →
      OwnAt K H' (OO (fun a => G a ∨ a ∈ Fr) F') rk Fr d' v → Fr.Nodup → (∀ a ∈ Fr, ¬ G a ∧ (a ∈ Fp.flatten ∨ H a = none)) → Q v H' := by
    intro v σ' F' H' e d' Fr hf S1 J r nF hF
    obtain ⟨os, h1, h2⟩ := Option.map_eq_some_iff.mp hf
    cases h2
    obtain ⟨l1, _, g⟩ := outsOf_get h1
    have lF' := J.lF
    have tk : ∀ {i : Nat} {Fi : List Addr}, (F'.take pk.length)[i]? = some Fi → F'[i]? = some Fi ∧ i < pk.length := fun {i Fi} e => by
      rw [List.getElem?_take] at e
      split at e
      · exact ⟨e, by assumption⟩
      · cases e
    have sub : ∀ {a : Addr}, a ∈ (F'.take pk.length).flatten → a ∈ F'.flatten := fun {a} ha => by
      obtain ⟨i, Fi, e, m⟩ := mem_flat.mp ha
      exact mem_flat.mpr ⟨i, Fi, (tk e).1, m⟩
    have S2 : Stp Fp H (F'.take pk.length) H' := ⟨fun a o e n => S1.keep a o e fun z => n (flat_pad.mp z), S1.dom, S1.tup, S1.frz, fun a ha => (S1.new a (sub ha)).imp flat_pad.mp id⟩
    refine q v (F'.take pk.length) H' Fr S2 ⟨by rw [List.length_take]; omega, by simpa using l1, by simpa using hl, ⟨fun i Fi e => J.nd.own i Fi (tk e).1, fun i j Fi Fj a e1 e2 => J.nd.apart i j Fi Fj a (tk e1).1 (tk e2).1⟩, fun a ha => J.tr a (sub ha), J.gt, fun i dd kd h3 h4 => ?_, (fun p hp => nomatch hp), fun i h => ?_⟩ (r.kp (Kp.less fun a z => z.imp id sub) fun a _ ob e => e) nF hF
    · rw [List.getElem?_map] at h3
      obtain ⟨d2, e2, e3⟩ := Option.map_eq_some_iff.mp h3
      cases e3
      have hi : i < pk.length := (List.getElem?_eq_some_iff.mp h4).1
      have hk4 : ks[i]? = some kd := by rw [← htk, List.getElem?_take, if_pos hi] at h4; exact h4
      rcases g i dd kd e2 h4 with ⟨rfl, e5⟩ | ⟨hne, e5⟩
      · obtain ⟨v', e6, r'⟩ := I.at_frz (i := i) (d := dd) (by rw [List.getElem?_map, e5]; rfl) h4
        exact ⟨v', [], e6, by rw [List.getElem?_take, if_pos hi]; exact J.fz i hk4, rfl, Rep.kp (S2.kp2 fun a z => z.imp id fun z => (hF a z).2) r'⟩
      · obtain ⟨v', Fi, e6, e7, o⟩ := J.sl i dd kd e5 hk4
        have hin : i ∈ own := hown i kd h4 hne
        have hvi : i < vs.length := by rw [hl]; exact hi
        have e8 := J.pn (i, vs[i]) (List.mem_filterMap.mpr ⟨i, hin, by rw [List.getElem?_eq_getElem hvi]; rfl⟩)
        have e9 : v' = vs[i] := by
          dsimp only at e8
          rw [e6] at e8
          exact Option.some.inj (Option.some.inj e8)
        subst e9
        refine ⟨_, Fi, by rw [List.getElem?_map, List.getElem?_eq_getElem hvi]; rfl, by rw [List.getElem?_take, if_pos hi]; exact e7, o.kp (Kp.less fun a z => z.elim .inl fun z => .inr (sub z)) fun a _ ob e => e⟩
    · have hi : i < pk.length := (List.getElem?_eq_some_iff.mp h).1
      have hk4 : ks[i]? = some Kd.frz := by rw [← htk, List.getElem?_take, if_pos hi] at h; exact h
      rw [List.getElem?_take, if_pos hi]
      exact J.fz i hk4
  split at hmf
  · rename_i d' e h1
    exact ⟨G, _, _, _, I0, h1, fun v σ' F' H' Fr S1 J r nF hF => fin hmf S1 J r nF fun a ha => ⟨(hF a ha).1, (hF a ha).2.imp flat_pad.mp id⟩⟩
  · rename_i e h1
    split at hmf
    · rename_i hrk
      subst hrk
      exact ⟨G, _, _, _, I0, h1, fun σ' F' H' S1 J => fin (Fr := []) hmf S1 (by rw [noneG]; exact J) ⟨rfl, rep_non⟩ List.nodup_nil fun a ha => nomatch ha⟩
    · cases hmf
  · cases hmf
end
end DL

/-! DLG: calls of defs; what is owned is made, changed, given away. -/
namespace DL
open PySem PySem.Spec PyProof.Rows L2
section
variable {rk : Kd} {X : Cx} {ks : List Kd} {ps : List (Nat × V)} {a b c e o : Expr} {es : List Expr} {pos pos' : Pos}

/-! ### slots that own -/
/-- slot i's own things are changed (or others come in their place), more is kept from being held -/
theorem EI.swap2 {K : PySem.W.Frag} {G G' : Addr → Prop} {F : List (List Addr)} {σ : L2.St} {H H' : Hp} {env : Ev} {i : Nat} {kd : Kd} {Fi Fi' : List Addr} {d : PyData} {v : V} (I : EI K ks ps G F σ H env) (hF : F[i]? = some Fi) (hk : ks[i]? = some kd) (hne : kd ≠ .frz) (hσ : σ[i]? = some (some v))
    (keep : ∀ a o, H a = some o → a ∉ Fi → H' a = some o) (dom : ∀ a, H a ≠ none → H' a ≠ none) (tup : ∀ a xs, H a = some (.tup xs) → H' a = some (.tup xs)) (frz : ∀ a o u, H a = some (.frz o u) → H' a = some (.frz o u))
    (hn : Fi'.Nodup) (hnew : ∀ a ∈ Fi', (a ∈ Fi ∨ H a = none) ∧ H' a ≠ none ∧ ¬ G' a) (hG : ∀ a, G' a → G a ∨ a ∈ Fi ∨ H a = none) (hG2 : ∀ a, G' a → H' a ≠ none) (ho : OwnAt K H' (OO G' (F.set i Fi')) kd Fi' d v) : EI K ks ps G' (F.set i Fi') σ H' (env.set i (some d)) ∧ Stp F H (F.set i Fi') H' := by
  have hi : i < ks.length := (List.getElem?_eq_some_iff.mp hk).1
  have inF : ∀ {a : Addr}, a ∈ Fi → a ∈ F.flatten := fun {a} h => mem_flat.mpr ⟨i, Fi, hF, h⟩
  have S : Stp F H (F.set i Fi') H' := by
    refine ⟨fun a o e n => keep a o e fun z => n (inF z), dom, tup, frz, fun a ha => ?_⟩
    rcases mem_set ha with h | ⟨j, Fj, hj, e, m⟩
    · exact (hnew a h).1.imp inF id
    · exact .inl (mem_flat.mpr ⟨j, Fj, e, m⟩)
  refine ⟨⟨by rw [List.length_set]; exact I.lF, by rw [List.length_set]; exact I.lE, I.lS, I.nd.set hn fun a ha j Fj hj e m => ?_, fun a ha => ?_, hG2, fun j d' kd' h1 h2 => ?_, I.pn, fun j h => ?_⟩, S⟩
  · rcases (hnew a ha).1 with h | h
    · exact hj (I.nd.apart j i Fj Fi a e hF m h)
    · exact (I.tr a (mem_flat.mpr ⟨j, Fj, e, m⟩)).1 h
  · rcases mem_set ha with h | ⟨j, Fj, hj, e, m⟩
    · exact (hnew a h).2
    · have t := I.tr a (mem_flat.mpr ⟨j, Fj, e, m⟩)
      refine ⟨dom a t.1, fun z => ?_⟩
      rcases hG a z with z | z | z
      · exact t.2 z
      · exact hj (I.nd.apart j i Fj Fi a e hF m z)
      · exact t.1 z
  · by_cases hj : j = i
    · subst hj
      rw [List.getElem?_set_self (by rw [I.lE]; exact hi)] at h1
      cases h1
      rw [hk] at h2; cases h2
      exact ⟨v, Fi', hσ, by rw [List.getElem?_set_self (by rw [I.lF]; exact hi)], ho⟩
    · rw [List.getElem?_set_ne (Ne.symm hj)] at h1
      obtain ⟨w, Fj, e1, e2, o⟩ := I.sl j d' kd' h1 h2
      refine ⟨w, Fj, e1, by rw [List.getElem?_set_ne (Ne.symm hj)]; exact e2, o.kp (S.kp2 fun a z => (hG a z).imp id fun z => z.imp inF id) fun a ha ob e => keep a ob e fun z => hj (I.nd.apart j i Fj Fi a e2 hF ha z)⟩
  · have hj : j ≠ i := fun z => by subst z; rw [hk] at h; exact hne (Option.some.inj h)
    rw [List.getElem?_set_ne (Ne.symm hj)]
    exact I.fz j h
/-- slot i's own things are changed (or others come in their place) -/
theorem EI.swap {K : PySem.W.Frag} {G : Addr → Prop} {F : List (List Addr)} {σ : L2.St} {H H' : Hp} {env : Ev} {i : Nat} {kd : Kd} {Fi Fi' : List Addr} {d : PyData} {v : V} (I : EI K ks ps G F σ H env) (hF : F[i]? = some Fi) (hk : ks[i]? = some kd) (hne : kd ≠ .frz) (hσ : σ[i]? = some (some v))
    (keep : ∀ a o, H a = some o → a ∉ Fi → H' a = some o) (dom : ∀ a, H a ≠ none → H' a ≠ none) (tup : ∀ a xs, H a = some (.tup xs) → H' a = some (.tup xs)) (frz : ∀ a o u, H a = some (.frz o u) → H' a = some (.frz o u))
    (hn : Fi'.Nodup) (hnew : ∀ a ∈ Fi', (a ∈ Fi ∨ H a = none) ∧ H' a ≠ none) (ho : OwnAt K H' (OO G (F.set i Fi')) kd Fi' d v) : EI K ks ps G (F.set i Fi') σ H' (env.set i (some d)) ∧ Stp F H (F.set i Fi') H' :=
  I.swap2 hF hk hne hσ keep dom tup frz hn (fun a h => ⟨(hnew a h).1, (hnew a h).2, fun z => (hnew a h).1.elim (fun m => (I.tr a (mem_flat.mpr ⟨i, Fi, hF, m⟩)).2 z) (I.gt a z)⟩) (fun a z => .inl z) (fun a z => dom a (I.gt a z)) ho
/-- a slot takes what is new and its own -/
theorem EI.setOwn {K : PySem.W.Frag} {G : Addr → Prop} {F : List (List Addr)} {σ : L2.St} {H : Hp} {env : Ev} {i : Nat} {kd : Kd} {Fr : List Addr} {d : PyData} {v : V} (I : EI K ks ps (fun a => G a ∨ a ∈ Fr) F σ H env) (hk : ks[i]? = some kd) (hne : kd ≠ .frz) (hp : psOk ps i = true)
    (hn : Fr.Nodup) (hG : ∀ a ∈ Fr, ¬ G a) (ho : OwnAt K H (OO (fun a => G a ∨ a ∈ Fr) F) kd Fr d v) : EI K ks ps G (F.set i Fr) (σ.set i (some v)) H (env.set i (some d)) := by
  have hi : i < ks.length := (List.getElem?_eq_some_iff.mp hk).1
  have less : ∀ a, OO G (F.set i Fr) a → OO (fun a => G a ∨ a ∈ Fr) F a := fun a z => by
    rcases z with z | z
    · exact .inl (.inl z)
    · rcases mem_set z with h | ⟨j, Fj, hj, e, m⟩
      · exact .inl (.inr h)
      · exact .inr (mem_flat.mpr ⟨j, Fj, e, m⟩)
  refine ⟨by rw [List.length_set]; exact I.lF, by rw [List.length_set]; exact I.lE, by rw [List.length_set]; exact I.lS, I.nd.set hn fun a ha j Fj hj e m => (I.tr a (mem_flat.mpr ⟨j, Fj, e, m⟩)).2 (.inr ha), fun a ha => ?_, fun a ha => I.gt a (.inl ha), fun j d' kd' h1 h2 => ?_, fun p hp' => ?_, fun j h => ?_⟩
  · rcases mem_set ha with h | ⟨j, Fj, hj, e, m⟩
    · exact ⟨I.gt a (.inr h), hG a h⟩
    · have t := I.tr a (mem_flat.mpr ⟨j, Fj, e, m⟩)
      exact ⟨t.1, fun z => t.2 (.inl z)⟩
  · by_cases hj : j = i
    · subst hj
      rw [List.getElem?_set_self (by rw [I.lE]; exact hi)] at h1
      cases h1
      rw [hk] at h2; cases h2
      exact ⟨v, Fr, by rw [List.getElem?_set_self (by rw [I.lS]; exact hi)], by rw [List.getElem?_set_self (by rw [I.lF]; exact hi)], ho.kp (Kp.less less) fun a _ ob e => e⟩
    · rw [List.getElem?_set_ne (Ne.symm hj)] at h1
      obtain ⟨w, Fj, e1, e2, o⟩ := I.sl j d' kd' h1 h2
      exact ⟨w, Fj, by rw [List.getElem?_set_ne (Ne.symm hj)]; exact e1, by rw [List.getElem?_set_ne (Ne.symm hj)]; exact e2, o.kp (Kp.less less) fun a _ ob e => e⟩
  · rw [List.getElem?_set_ne (Ne.symm (psOk_ne hp p hp'))]; exact I.pn p hp'
  · have hj : j ≠ i := fun z => by subst z; rw [hk] at h; exact hne (Option.some.inj h)
    rw [List.getElem?_set_ne (Ne.symm hj)]
    exact I.fz j h
/-- what a slot owns is given away -/
theorem EI.give {K : PySem.W.Frag} {G : Addr → Prop} {F : List (List Addr)} {σ : L2.St} {H : Hp} {env : Ev} {i : Nat} {d : PyData} (I : EI K ks ps G F σ H env) (h1 : env[i]? = some (some d)) (hp : psOk ps i = true) :
    ∃ v F', σ[i]? = some (some v) ∧ EI K ks ps G F' σ H (env.set i none) ∧ Rep K H (OO G F') d v ∧ (∀ a, OO G F' a → OO G F a) := by
  have hi : i < ks.length := by rw [← I.lE]; exact (List.getElem?_eq_some_iff.mp h1).1
  obtain ⟨v, Fi, e1, e2, o⟩ := I.sl i d _ h1 (List.getElem?_eq_getElem hi)
  have less : ∀ a, OO G (F.set i []) a → OO G F a := fun a z => by
    rcases z with z | z
    · exact .inl z
    · rcases mem_set z with h | ⟨j, Fj, hj, e, m⟩
      · cases h
      · exact .inr (mem_flat.mpr ⟨j, Fj, e, m⟩)
  refine ⟨v, F.set i [], e1, ⟨by rw [List.length_set]; exact I.lF, by rw [List.length_set]; exact I.lE, I.lS, I.nd.set List.nodup_nil (fun a ha => nomatch ha), fun a ha => ?_, I.gt, fun j d' kd' h3 h4 => ?_, I.pn, fun j h => ?_⟩, o.repP less fun a ha z => ?_, less⟩
  · rcases mem_set ha with h | ⟨j, Fj, hj, e, m⟩
    · cases h
    · exact I.tr a (mem_flat.mpr ⟨j, Fj, e, m⟩)
  · by_cases hj : j = i
    · subst hj
      rw [List.getElem?_set_self (by rw [I.lE]; exact hi)] at h3
      exact nomatch (Option.some.inj h3)
    · rw [List.getElem?_set_ne (Ne.symm hj)] at h3
      obtain ⟨w, Fj, g1, g2, o'⟩ := I.sl j d' kd' h3 h4
      exact ⟨w, Fj, g1, by rw [List.getElem?_set_ne (Ne.symm hj)]; exact g2, o'.kp (Kp.less less) fun a _ ob e => e⟩
  · by_cases hj : j = i
    · subst hj
      rw [List.getElem?_set_self (by rw [I.lF]; exact hi)]
    · rw [List.getElem?_set_ne (Ne.symm hj)]
      exact I.fz j h
  · rcases z with z | z
    · exact (I.tr a (mem_flat.mpr ⟨i, Fi, e2, ha⟩)).2 z
    · rcases mem_set z with h | ⟨j, Fj, hj, e, m⟩
      · cases h
      · exact hj (I.nd.apart j i Fj Fi a e e2 m ha)
/-- return x, x a slot that owns -/
def mTake (i : Nat) : M PyData := fun e => match e[i]? with
  | some (some d) => some (d, e.set i none)
  | _ => none
theorem ed_take (i : Nat) {x : Str} (hN : X.N[i]? = some x := by rfl) (hp : psOk ps i = true := by rfl) (hv : Vis X.env.scope x := by first | exact Or.inl rfl | exact Or.inr (Or.inl rfl) | exact Or.inr (Or.inr rfl)) (hd : (x == ("__debug__" : Str)) = false := by decide)
    (hcd : (x == ("__classdict__" : Str)) = false := by decide) : ED X ks ps (.Name x pos) (mTake i) := PE.imp (pe_var hN hv hd hcd) fun σ H Q q => by
  obtain ⟨G, F, env, d, env', I, hm, q⟩ := q
  unfold mTake at hm
  split at hm
  · rename_i d' he
    cases hm
    obtain ⟨v, F', e1, J, r, less⟩ := I.give he hp
    exact ⟨v, e1, q v F' H ⟨fun _ _ e _ => e, fun _ e => e, fun _ _ e => e, fun _ _ _ e => e, fun a ha => by
      rcases less a (.inr ha) with z | z
      · exact absurd z (J.tr a ha).2
      · exact .inl z⟩ J r⟩
  · cases hm

/-! ### what is new and one's own -/
theorem ed_own {kd : Kd} {m : M PyData} (h : FD X ks ps kd e m) : ED X ks ps e m := PE.imp h fun σ H Q q => by
  obtain ⟨G, F, env, d, env', I, hm, q⟩ := q
  refine ⟨G, F, env, d, env', I, hm, fun v F' H' Fr S J o hn hF => q v F' H' S (J.lessG fun _ z => .inl z) (o.repP (fun a z => z.elim (fun z => .inl (.inl z)) .inr) fun a ha z => ?_)⟩
  rcases z with z | z
  · exact (hF a ha).1 z
  · exact (J.tr a z).2 (.inr ha)
/-- x = e, x a slot that owns -/
theorem sd_own {i : Nat} {x : Str} {kd : Kd} {m : M PyData} (hN : X.N.Nodup) (hi : X.N[i]? = some x) (hx : Loc X.env.scope x) (hk : ks[i]? = some kd) (hne : kd ≠ .frz) (hp : psOk ps i = true) (he : FD X ks ps kd e m) (hs : swapsWith e (some (.Name x pos')) pos.line X.env = pure false := by rfl)
    (hf : X.fn x = true ∨ X.env.scope.names.lookup x = some .local := by first | exact .inl rfl | exact .inr rfl | assumption) : SD X ks ps rk (.Assign [.Name x pos'] e pos) (sAsg m (gNm i)) := PS.imp (ps_set hN hi hx he hs hf) fun D σ H q => by
  obtain ⟨G, F, env, out, I, hm, q⟩ := q
  obtain ⟨d, e1, e2, h1, h2, rfl⟩ := sAsg_some hm
  cases h2
  refine ⟨G, F, env, d, e1, I, h1, fun v F1 H1 Fr S1 I1 o hn hF => q _ (F1.set i Fr) H1 ?_ (I1.setOwn hk hne hp hn (fun a ha => (hF a ha).1) o)⟩
  refine ⟨S1.keep, S1.dom, S1.tup, S1.frz, fun a ha => ?_⟩
  rcases mem_set ha with h | ⟨j, Fj, hj, e, m⟩
  · exact (hF a h).2
  · exact S1.new a (mem_flat.mpr ⟨j, Fj, e, m⟩)
theorem fresh_own {K : PySem.W.Frag} {G : Addr → Prop} {F : List (List Addr)} {σ : L2.St} {H : Hp} {env : Ev} {p : Addr} {u : HO} (I : EI K ks ps G F σ H env) (hp : H p = none) : EI K ks ps (fun a => G a ∨ a ∈ [p]) F σ (upd H p u) env :=
  I.moreG (same_upd hp) (fun a z => z.imp id fun z => by rw [List.mem_singleton.mp z]; exact hp) fun a z => by
    rcases z with z | z
    · exact (Stp.same (F := F) (same_upd (o := u) hp)).dom a (I.gt a z)
    · rw [List.mem_singleton.mp z, upd_same]; simp
theorem fresh_kp {G : Addr → Prop} {F : List (List Addr)} {H : Hp} {p : Addr} {u : HO} (hp : H p = none) : Kp (OO G F) H (OO (fun a => G a ∨ a ∈ [p]) F) (upd H p u) :=
  (Stp.same (F := F) (same_upd (o := u) hp)).kp2 fun a z => z.imp id fun z => .inr <| by rw [List.mem_singleton.mp z]; exact hp
/-- [a, b, ..] -/
theorem fd_lst {ma : M (List Opd)} (h : AoD X ks ps es ma) : FD X ks ps .l1 (.List es pos) (mLst ma) := PE.imp (pe_lst h) fun σ H Q q => by
  obtain ⟨G, F, env, d, env', I, hm, q⟩ := q
  obtain ⟨os, e1, h1, h2⟩ := bnd_some hm
  obtain ⟨h2, rfl⟩ := lft_some h2
  split at h2
  · cases h2
  · rename_i ds g
    split at h2
    · cases h2
      rename_i hl
      refine ⟨G, F, env, os, _, I, h1, fun vs F1 H1 S1 I1 r1 => ?_⟩
      have ra := HoldsA.vals r1 g
      have hlen := ra.length
      refine ⟨Nat.le_of_lt (small1000 (by omega)), fun p hp => ?_⟩
      refine q _ F1 _ [p] (S1.trans (.same (same_upd hp))) (fresh_own I1 hp) ⟨p, vs, ds, rfl, rfl, rfl, upd_same, RepA.kp (fresh_kp hp) ra⟩ (List.nodup_cons.mpr ⟨List.not_mem_nil, List.nodup_nil⟩) fun a ha => ?_
      rw [List.mem_singleton.mp ha]
      exact ⟨fun z => I1.gt p z hp, .inr (S1.back hp)⟩
    · cases h2
/-- list(x) -/
theorem fd_list {x : Str} {p : Pos} {m : M Opd} (hx : x = "list") (hg : Gl X x) (hm : X.mg x = none) (ha : RD X ks ps e m)
    (he : starEach [e] X.env = (false, eval e X.env) :: starEach [] X.env := by rfl) : FD X ks ps .l1 (.Call (.Name x p) [e] [] pos) (mCallB listD (mA m mA0)) := by
  subst hx
  refine PE.imp (pe_callTy call_list_of hg hm (by decide +kernel) (pa_cons ha pa_nil he) (by decide) (by decide) he) fun σ H Q q => ?_
  obtain ⟨G, F, env, d, env', I, hm, q⟩ := q
  obtain ⟨os, e1, h1, h2⟩ := bnd_some hm
  obtain ⟨o1, e2, h3, h4⟩ := bnd_some h1
  cases h4
  obtain ⟨rfl, ds, g1, g3, gi⟩ := rsN_some h2
  refine ⟨G, F, env, o1, _, I, h3, fun v F1 H1 S1 I1 r1 => ?_⟩
  have hd : ∃ d1, o1.get env' = some d1 ∧ ds = [d1] := by
    unfold getAll at g1
    split at g1
    · cases g1
    · rename_i d1 hd1
      unfold getAll at g1
      cases g1
      exact ⟨d1, hd1, rfl⟩
  obtain ⟨d1, hd1, rfl⟩ := hd
  have r := HoldsO.rep I1 r1 hd1
  have nown : o1.own = false := by
    have : (List.any [o1] Opd.own && !imm d) = false := by simpa using gi
    unfold listD at g3
    split at g3 <;> first | (cases g3; simpa [imm] using this) | cases g3
  rw [nown] at r
  have fin : ∀ {a : Addr} {vs : List V} {ds : List PyData}, RepA X.K H1 (OO G F1) ds vs → d = .list ds → ∀ p, H1 p = none → Q (.ref p) (upd H1 p (.lst vs)) := by
    rintro a vs ds ra rfl p hp
    refine q _ F1 _ [p] (S1.trans (.same (same_upd hp))) (fresh_own I1 hp) ⟨p, vs, ds, rfl, rfl, rfl, upd_same, RepA.kp (fresh_kp hp) ra⟩ (List.nodup_cons.mpr ⟨List.not_mem_nil, List.nodup_nil⟩) fun a ha => ?_
    rw [List.mem_singleton.mp ha]
    exact ⟨fun z => I1.gt p z hp, .inr (S1.back hp)⟩
  unfold listD at g3
  split at g3
  · rename_i hds
    cases g3; cases hds
    simp only [Rep] at r
    obtain ⟨a, vs, rfl, t1, a1⟩ := r
    exact ⟨a, vs, rfl, .inl t1.sq, fin (a := a) a1 rfl⟩
  · rename_i hds
    cases g3; cases hds
    simp only [Rep] at r
    obtain ⟨a, vs, rfl, t1, a1⟩ := r
    exact ⟨a, vs, rfl, .inr t1.sq, fin (a := a) a1 rfl⟩
  · cases g3
/-- [.. for ..] -/
theorem fd_comp {elt tg it : Expr} {ifs : List Expr} {scope : Scope} {own : List (Str × Nat)} {mi : M (List PyData)} {g : St1} {t : M Bool} {m : M PyData} (hc : X.calm = true) (hN : X.N.Nodup) (hi : ID X ks ps tg it mi) (ok : BlkOk X.N X.env.scope scope own)
    (hg : ∀ (s : Shared) (H : Hp) (C : Addr) (cl : List (Str × Addr)) (fp : List Addr), GD (X.blk s H scope (compEnvC scope cl C X.env) fp) ks ps (own.map (·.2)) tg g)
    (ht : ∀ (s : Shared) (H : Hp) (C : Addr) (cl : List (Str × Addr)) (fp : List Addr), PTs (X.blk s H scope (compEnvC scope cl C X.env) fp) ifs (tT X.K ks ps t))
    (he : ∀ (s : Shared) (H : Hp) (C : Addr) (cl : List (Str × Addr)) (fp : List Addr), ED (X.blk s H scope (compEnvC scope cl C X.env) fp) ks ps elt m)
    (hp : frzAll ks ps (own.map (·.2)) = true)
    (hs : ∀ x, foldedSetIterable it X.env x = pure x := by intro _; rfl) : FD X ks ps .l1 (.ListComp elt [⟨tg, it, ifs, 0⟩] scope pos) (mComp mi g t m (own.map (·.2))) :=
  PE.imp (pe_lc hc hN hi ok hg ht he hs) fun σ H Q q => by
    obtain ⟨G, F, env, d, env', I, hm, q⟩ := q
    obtain ⟨ds, e1, ys, e2, h1, hl, h2, rfl, rfl⟩ := mComp_some hm
    obtain ⟨hk, hp⟩ := frzAll_k hp
    refine comp_read I h1 hl h2 hk hp fun D xs F' H' S J hD eD ra nO => ?_
    have eG : (fun a => G a ∨ a = D) = fun a => G a ∨ a ∈ [D] := by funext a; simp
    rw [eG] at J ra
    exact q _ F' H' [D] S J ⟨D, xs, ys, rfl, rfl, rfl, eD, ra⟩ (List.nodup_cons.mpr ⟨List.not_mem_nil, List.nodup_nil⟩) fun a ha => by
      rw [List.mem_singleton.mp ha]
      exact ⟨fun z => nO (.inl z), .inr hD⟩
/-- {} -/
theorem fd_dk0 : FD X ks ps .dk (.Dict [] [] pos) (ret (.dict [])) := PE.imp pe_dnewK fun σ H Q q => by
  obtain ⟨G, F, env, d, env', I, hm, q⟩ := q
  cases hm
  intro p hp
  refine q _ F _ [p] (.same (same_upd hp)) (fresh_own I hp) ⟨p, [], [], rfl, rfl, rfl, upd_same, rfl, by simp only [RepV, List.map_nil]⟩ (List.nodup_cons.mpr ⟨List.not_mem_nil, List.nodup_nil⟩) fun a ha => ?_
  rw [List.mem_singleton.mp ha]
  exact ⟨fun z => I.gt p z hp, .inr hp⟩
theorem fd_dt0 : FD X ks ps .dt (.Dict [] [] pos) (ret (.dict [])) := PE.imp pe_dnewT fun σ H Q q => by
  obtain ⟨G, F, env, d, env', I, hm, q⟩ := q
  cases hm
  intro p hp
  refine q _ F _ [p] (.same (same_upd hp)) (fresh_own I hp) ⟨p, [], [], rfl, rfl, rfl, upd_same, rfl, by simp only [RepV, List.map_nil]⟩ (List.nodup_cons.mpr ⟨List.not_mem_nil, List.nodup_nil⟩) fun a ha => ?_
  rw [List.mem_singleton.mp ha]
  exact ⟨fun z => I.gt p z hp, .inr hp⟩

/-! ### calls of defs -/
/-- what of a result hangs on nothing that may be changed -/
def immK : Kd → PyData → Bool
  | .frz, d => imm d
  | .l1, .list ds => immA ds
  | .l2, .list ds => ds.all fun d => match d with
    | .list es => immA es
    | _ => false
  | .dk, .dict kvs => immA (kvs.map (·.2))
  | .dt, .dict kvs => immA (kvs.map (·.2))
  | .src, _ => true
  | _, _ => false
theorem OwnAt.imm {K : PySem.W.Frag} {H : Hp} {O O' : Addr → Prop} {kd : Kd} {Fr : List Addr} {d : PyData} {v : V} (hi : immK kd d = true) (h : OwnAt K H O kd Fr d v) : OwnAt K H O' kd Fr d v := by
  cases kd with
  | frz => exact ⟨h.1, Rep.imm hi h.2⟩
  | l1 =>
    obtain ⟨a, xs, ds, rfl, rfl, e2, e3, r⟩ := h
    exact ⟨a, xs, ds, rfl, rfl, e2, e3, RepA.imm hi r⟩
  | l2 =>
    obtain ⟨a, bs, dss, rfl, rfl, e2, e3, el, r⟩ := h
    refine ⟨a, bs, dss, rfl, rfl, e2, e3, el, fun i b ds g1 g2 => ?_⟩
    obtain ⟨xs, q1, q2⟩ := r i b ds g1 g2
    refine ⟨xs, q1, RepA.imm ?_ q2⟩
    have hm : PyData.list ds ∈ List.map PyData.list dss := List.mem_map.mpr ⟨ds, List.mem_of_getElem? g2, rfl⟩
    have := List.all_eq_true.mp hi _ hm
    simpa using this
  | dk =>
    obtain ⟨a, kvs, l, rfl, rfl, e2, e3, e4, r⟩ := h
    exact ⟨a, kvs, l, rfl, rfl, e2, e3, e4, RepV_iff.mpr (RepA.imm hi (RepV_iff.mp r))⟩
  | dt =>
    obtain ⟨a, kvs, l, rfl, rfl, e2, e3, e4, r⟩ := h
    exact ⟨a, kvs, l, rfl, rfl, e2, e3, e4, RepV_iff.mpr (RepA.imm hi (RepV_iff.mp r))⟩
  | src => exact h
theorem ifownK {K : PySem.W.Frag} {H : Hp} {O Fp : Addr → Prop} {b : Bool} {kd : Kd} {Fr : List Addr} {d : PyData} {v : V} (hi : ¬ (b && !immK kd d) = true) (h : OwnAt K H (fun a => (if b then fun _ => False else O) a ∨ Fp a) kd Fr d v) : OwnAt K H (fun a => O a ∨ Fp a) kd Fr d v := by
  cases b with
  | false => exact h
  | true => exact OwnAt.imm (by simpa using hi) h
def rsK (rk : Kd) (g : List PyData → Option PyData) (os : List Opd) : M PyData := fun e => match getAll os e with
  | none => none
  | some ds => match g ds with
    | none => none
    | some d => if os.any Opd.own && !immK rk d then none else some (d, e)
theorem rsK_some {g : List PyData → Option PyData} {os : List Opd} {e e2 : Ev} {r : PyData} (h : rsK rk g os e = some (r, e2)) : e2 = e ∧ ∃ ds, getAll os e = some ds ∧ g ds = some r ∧ ¬ (os.any Opd.own && !immK rk r) = true := by
  unfold rsK at h
  split at h
  · cases h
  · rename_i ds h1
    split at h
    · cases h
    · rename_i d h2
      split at h
      · cases h
      · cases h
        exact ⟨rfl, ds, h1, h2, by assumption⟩
/-- a def's call: the arguments' data, what comes -/
def mCall (rk : Kd) (n : Nat) (mf : List PyData → Option (PyData × List PyData)) (ma : M (List Opd)) : M PyData := bnd ma fun os => rsK rk (fun ds => if ds.length = n then (mf ds).map (·.1) else none) os
def spF (K : PySem.W.Frag) (n : Nat) (rk : Kd) (g : List PyData → Option PyData) : Sp := fun vs H Q _ => vs.length = n ∧ ∃ O ds d, (∀ p, H p = none → ¬ O p) ∧ RepA K H O ds vs ∧ g ds = some d ∧
  ∀ v H' Fr, Same H H' → OwnAt K H' (fun a => O a ∨ a ∈ Fr) rk Fr d v → Fr.Nodup → (∀ a ∈ Fr, H a = none ∧ H' a ≠ none) → Q v H'
theorem noF_rep {n : Nat} {a : Addr} : a ∉ (List.replicate n ([] : List Addr)).flatten := fun z => by
  obtain ⟨l, h1, h2⟩ := List.mem_flatten.mp z
  rw [(List.mem_replicate.mp h1).2] at h2
  cases h2
theorem frz_EI {K : PySem.W.Frag} {O : Addr → Prop} {H : Hp} {ds : List PyData} {vs : List V} {n : Nat} (fr : ∀ p, H p = none → ¬ O p) (h : RepA K H O ds vs) (hn : ds.length = n) : EI K (List.replicate n .frz) [] O (List.replicate n []) (vs.map some) H (ds.map some) := by
  have hl := h.length
  have noF : ∀ {a : Addr}, a ∉ (List.replicate n ([] : List Addr)).flatten := fun {a} z => by
    obtain ⟨l, h1, h2⟩ := List.mem_flatten.mp z
    rw [(List.mem_replicate.mp h1).2] at h2
    cases h2
  refine ⟨by simp, by simp [hn], by simp; omega, ⟨fun i Fi e => ?_, fun i j Fi Fj a e1 e2 m1 m2 => ?_⟩, fun a ha => absurd ha noF, fun a ha => fun z => fr a z ha, fun i d kd h1 h2 => ?_, (fun p hp => nomatch hp), fun i h => ?_⟩
  · rw [List.getElem?_replicate] at e
    split at e
    · cases e; exact List.nodup_nil
    · cases e
  · rw [List.getElem?_replicate] at e1
    split at e1
    · cases e1; cases m1
    · cases e1
  · rw [List.getElem?_replicate] at h2
    split at h2
    · cases h2
      rw [List.getElem?_map] at h1
      obtain ⟨d', e1, e2⟩ := Option.map_eq_some_iff.mp h1
      cases e2
      obtain ⟨x, e3, r⟩ := h.get e1
      refine ⟨x, [], by rw [List.getElem?_map, e3]; rfl, by rw [List.getElem?_replicate, if_pos (by assumption)], rfl, Rep.kp (Kp.less fun a z => z.elim id fun z => absurd z noF) r⟩
    · cases h2
  · rw [List.getElem?_replicate] at h ⊢
    split at h
    · rw [if_pos (by assumption)]
    · cases h
theorem frz_flat {n : Nat} {K : PySem.W.Frag} {G : Addr → Prop} {F : List (List Addr)} {σ : L2.St} {H : Hp} {env : Ev} (J : EI K (List.replicate n .frz) ps G F σ H env) {a : Addr} : a ∉ F.flatten := fun z => by
  obtain ⟨i, Fi, e, m⟩ := mem_flat.mp z
  have hi : i < n := by have := (List.getElem?_eq_some_iff.mp e).1; have l := J.lF; rw [List.length_replicate] at l; omega
  rw [J.fz i (by rw [List.getElem?_replicate, if_pos hi])] at e
  cases e
  cases m
/-- a def that owns no parameter, called -/
theorem fd_call {k n : Nat} {x : Str} {p : Pos} {mf : List PyData → Option (PyData × List PyData)} {ma : M (List Opd)} (F : FnD X.prog X.w X.K X.mg X.base k x (List.replicate n .frz) rk mf) (hr : Room k X.A) (hgd : X.A.guards = some []) (hg : Gl X x)
    (hx : Passes CX0 X E0) (ha : AoD X ks ps (e :: es) ma) (hdb : (x == ("__debug__" : Str)) = false := by decide) (he : starEach (e :: es) X.env = (false, eval e X.env) :: starEach es X.env := by rfl) (hpl : (backTo pos (starEach es X.env)).any (·.1) = false := by rfl) :
    FD X ks ps rk (.Call (.Name x p) (e :: es) [] pos) (mCall rk n mf ma) := by
  obtain ⟨f, fd, ps', F1, hm, hk, hb⟩ := F
  have F2 : FnG X.prog X.w X.K X.mg X.base CX0 k f fd ps' (spF X.K n rk fun ds => if ds.length = n then (mf ds).map (·.1) else none) := F1.weak fun vs H Q E h => by
    obtain ⟨hl, O, ds, d, fr, ra, hd, q⟩ := h
    have hd : (if ds.length = n then Option.map (fun x => x.fst) (mf ds) else none) = some d := hd
    rw [if_pos (by rw [ra.length]; exact hl)] at hd
    obtain ⟨⟨d', outs⟩, h1, rfl⟩ := Option.map_eq_some_iff.mp hd
    refine ⟨by simpa using hl, O, _, ds, d', outs, frz_EI fr ra (by rw [ra.length]; exact hl), h1, fun v F' H' Fr S J o n hF => q v H' Fr (fun a u e => S.keep a u e noF_rep) (o.kp (Kp.less fun a z => .inl z) fun a _ ob e => e) n fun a ha => ⟨(hF a ha).2.resolve_left noF_rep, J.gt a (.inr ha)⟩⟩
  refine PE.imp (pg_call F2 hr hgd hg hm hk hb hx ha hdb he hpl) fun σ H Q q => ?_
  obtain ⟨G, F, env, d, env', I, hm', q⟩ := q
  obtain ⟨os, e1, h1, h2⟩ := bnd_some hm'
  obtain ⟨rfl, ds, g1, g3, gi⟩ := rsK_some h2
  refine ⟨G, F, env, os, env', I, h1, fun vs F1 H1 S1 I1 r1 => ?_⟩
  have ra := HoldsA.rep I1 r1 g1
  have hlen : vs.length = n := by
    have g3' : (if ds.length = n then Option.map (fun x => x.fst) (mf ds) else none) = some d := g3
    split at g3'
    · rw [← ra.length]; assumption
    · cases g3'
  refine ⟨hlen, _, ds, d, fresh_if I1, ra, g3, fun w H3 Fr s3 o3 n3 hF => ?_⟩
  refine q w F1 H3 Fr (S1.trans (.same s3)) (I1.moreG s3 (fun a z => z.imp id fun z => (hF a z).1) fun a z => z.elim (fun z => (Stp.same (F := F1) s3).dom a (I1.gt a z)) fun z => (hF a z).2) ?_ n3 fun a ha => ⟨fun z => I1.gt a z (hF a ha).1, .inr (S1.back (hF a ha).1)⟩
  refine (ifownK gi o3).kp (Kp.less fun a z => ?_) fun a _ ob e => e
  rcases z with (z | z) | z
  · exact .inl (.inl z)
  · exact .inr z
  · exact .inl (.inr z)
theorem ed_call {k n : Nat} {x : Str} {p : Pos} {mf : List PyData → Option (PyData × List PyData)} {ma : M (List Opd)} (F : FnD X.prog X.w X.K X.mg X.base k x (List.replicate n .frz) rk mf) (hr : Room k X.A) (hgd : X.A.guards = some []) (hg : Gl X x)
    (hx : Passes CX0 X E0) (ha : AoD X ks ps (e :: es) ma) (hdb : (x == ("__debug__" : Str)) = false := by decide) (he : starEach (e :: es) X.env = (false, eval e X.env) :: starEach es X.env := by rfl) (hpl : (backTo pos (starEach es X.env)).any (·.1) = false := by rfl) :
    ED X ks ps (.Call (.Name x p) (e :: es) [] pos) (mCall rk n mf ma) := ed_own (fd_call F hr hgd hg hx ha hdb he hpl)
/-- f(x, e, ..), x a slot that owns, which the def changes; n further arguments -/
def noSlot (i : Nat) : List Opd → Bool
  | [] => true
  | .slot l :: r => l != i && noSlot i r
  | .val _ :: r => noSlot i r
def mCallS (rk kd : Kd) (mf : List PyData → Option (PyData × List PyData)) (i n : Nat) (ma : M (List Opd)) : M PyData := fun e => match e[i]? with
  | some (some _) => match ma e with
    | none => none
    | some (os, e1) => match e1[i]? with
      | some (some s) => match getAll os e1 with
        | none => none
        | some ds => if ds.length = n ∧ noSlot i os = true then match mf (s :: ds) with
          | some (d, y :: _) => if os.any Opd.own && !(immK rk d && decide (kd = .src)) then none else some (d, e1.set i (some y))
          | _ => none
          else none
      | _ => none
  | _ => none
theorem mCallS_some {kd : Kd} {mf : List PyData → Option (PyData × List PyData)} {i n : Nat} {ma : M (List Opd)} {e e' : Ev} {d : PyData} (h : mCallS rk kd mf i n ma e = some (d, e')) :
    ∃ s0 os e1 s ds y outs, e[i]? = some (some s0) ∧ ma e = some (os, e1) ∧ e1[i]? = some (some s) ∧ getAll os e1 = some ds ∧ ds.length = n ∧ noSlot i os = true ∧ mf (s :: ds) = some (d, y :: outs) ∧ (os.any Opd.own = true → immK rk d = true ∧ kd = .src) ∧ e' = e1.set i (some y) := by
  unfold mCallS at h
  split at h
  · rename_i s0 h0
    split at h
    · cases h
    · rename_i os e1 h1
      split at h
      · rename_i s h2
        split at h
        · cases h
        · rename_i ds h3
          split at h
          · rename_i h4
            split at h
            · rename_i d' y outs h5
              split at h
              · cases h
              · rename_i h6
                cases h
                refine ⟨s0, os, e1, s, ds, y, outs, h0, h1, h2, h3, h4.1, h4.2, h5, fun z => ?_, rfl⟩
                rw [z] at h6
                simpa using h6
            · cases h
          · cases h
      · cases h
  · cases h
theorem HoldsA.apart {K : PySem.W.Frag} {G P : Addr → Prop} {F : List (List Addr)} {σ : L2.St} {H : Hp} {env : Ev} {i : Nat} {Fi : List Addr} (I : EI K ks ps G F σ H env) (hF : F[i]? = some Fi) (hP : ∀ a, P a → a ∈ Fi) : ∀ {os : List Opd} {vs : List V} {ds : List PyData}, HoldsA K ks G F σ H os vs → getAll os env = some ds → noSlot i os = true →
    RepA K H P ds vs
  | [], _, _, h, e, _ => by cases e; simp only [RepA]; exact h
  | .val d :: r, _, ds, h, e, n => by
    obtain ⟨x, t, rfl, h1, h2⟩ := h
    unfold getAll Opd.get at e
    dsimp only at e
    split at e
    · cases e
    · rename_i ds' g2
      cases e
      exact .cons (Rep.kp (Kp.less fun a z => .inr (mem_flat.mpr ⟨i, Fi, hF, hP a z⟩)) h1) (HoldsA.apart I hF hP h2 g2 n)
  | .slot l :: r, _, ds, h, e, n => by
    obtain ⟨x, t, rfl, h1, h2⟩ := h
    unfold getAll at e
    split at e
    · cases e
    · rename_i d g1
      split at e
      · cases e
      · rename_i ds' g2
        cases e
        unfold noSlot at n
        rw [Bool.and_eq_true] at n
        refine .cons ?_ (HoldsA.apart I hF hP h2 g2 n.2)
        unfold Opd.get at g1
        dsimp only at g1
        split at g1
        · rename_i d' hd
          cases g1
          have hk : l < ks.length := by rw [← I.lE]; exact (List.getElem?_eq_some_iff.mp hd).1
          obtain ⟨v', Fl, e1, e2, o⟩ := I.sl l d _ hd (List.getElem?_eq_getElem hk)
          have h1' : σ[l]? = some (some x) := h1
          rw [h1'] at e1
          cases e1
          refine o.repP (fun a z => .inr (mem_flat.mpr ⟨i, Fi, hF, hP a z⟩)) fun a ha z => ?_
          have := I.nd.apart l i Fl Fi a e2 hF ha (hP a z)
          simp [this] at n
        · cases g1
/-- the parameters' state: the first owned, the rest not -/
theorem own_EI {K : PySem.W.Frag} {Gc : Addr → Prop} {H : Hp} {kd : Kd} {Fi : List Addr} {s : PyData} {v : V} {ds : List PyData} {vs : List V} {n : Nat} (hne : kd ≠ .frz) (hn : Fi.Nodup) (ht : ∀ a ∈ Fi, H a ≠ none ∧ ¬ Gc a) (hg : ∀ a, Gc a → H a ≠ none)
    (ho : OwnAt K H (OO Gc [Fi]) kd Fi s v) (h : RepA K H (OO Gc [Fi]) ds vs) (hl : ds.length = n) : EI K (kd :: List.replicate n .frz) [] Gc (Fi :: List.replicate n []) ((v :: vs).map some) H ((s :: ds).map some) := by
  have hl2 := h.length
  have fl : ∀ {a : Addr}, a ∈ (Fi :: List.replicate n ([] : List Addr)).flatten ↔ a ∈ Fi := fun {a} => by
    rw [List.flatten_cons, List.mem_append]
    exact ⟨fun z => z.elim id fun z => absurd z noF_rep, .inl⟩
  have less : ∀ a, OO Gc (Fi :: List.replicate n []) a → OO Gc [Fi] a := fun a z => z.imp id fun z => by simpa using fl.mp z
  refine ⟨by simp, by simp [hl], by simp; omega, ⟨fun i Fj e => ?_, fun i j F1 F2 a e1 e2 m1 m2 => ?_⟩, fun a ha => ht a (fl.mp ha), hg, fun i d kd' h1 h2 => ?_, (fun p hp => nomatch hp), fun i h => ?_⟩
  · cases i with
    | zero => simp at e; subst e; exact hn
    | succ i =>
      rw [List.getElem?_cons_succ, List.getElem?_replicate] at e
      split at e
      · cases e; exact List.nodup_nil
      · cases e
  · have z : ∀ {i : Nat} {Fj : List Addr}, (Fi :: List.replicate n [])[i]? = some Fj → a ∈ Fj → i = 0 := fun {i Fj} e m => by
      cases i with
      | zero => rfl
      | succ i =>
        rw [List.getElem?_cons_succ, List.getElem?_replicate] at e
        split at e
        · cases e; cases m
        · cases e
    rw [z e1 m1, z e2 m2]
  · cases i with
    | zero =>
      simp at h1 h2
      subst h1; subst h2
      exact ⟨v, Fi, rfl, rfl, ho.kp (Kp.less less) fun a _ ob e => e⟩
    | succ i =>
      rw [List.getElem?_cons_succ, List.getElem?_replicate] at h2
      split at h2
      · cases h2
        rw [List.map_cons, List.getElem?_cons_succ, List.getElem?_map] at h1
        obtain ⟨d', e1, e2⟩ := Option.map_eq_some_iff.mp h1
        cases e2
        obtain ⟨x, e3, r⟩ := h.get e1
        exact ⟨x, [], by rw [List.map_cons, List.getElem?_cons_succ, List.getElem?_map, e3]; rfl, by rw [List.getElem?_cons_succ, List.getElem?_replicate, if_pos (by assumption)], rfl, Rep.kp (Kp.less less) r⟩
      · cases h2
  · cases i with
    | zero => simp at h; exact absurd h hne
    | succ i =>
      rw [List.getElem?_cons_succ, List.getElem?_replicate] at h ⊢
      split at h
      · rw [if_pos (by assumption)]
      · cases h
theorem fd_callS {k n i : Nat} {x y : Str} {p py : Pos} {kd : Kd} {mf : List PyData → Option (PyData × List PyData)} {ma : M (List Opd)} (F : FnD X.prog X.w X.K X.mg X.base k x (kd :: List.replicate n .frz) rk mf) (hr : Room k X.A) (hgd : X.A.guards = some []) (hg : Gl X x)
    (hx : Passes CX0 X E0) (hne : kd ≠ .frz) (hN : X.N[i]? = some y) (hk : ks[i]? = some kd) (hv : Vis X.env.scope y) (ha : AoD X ks ps es ma) (hd : (y == ("__debug__" : Str)) = false := by decide) (hcd : (y == ("__classdict__" : Str)) = false := by decide) (hdb : (x == ("__debug__" : Str)) = false := by decide)
    (he : starEach (.Name y py :: es) X.env = (false, eval (.Name y py) X.env) :: starEach es X.env := by rfl) (hpl : (backTo pos (starEach es X.env)).any (·.1) = false := by rfl) :
    FD X ks ps rk (.Call (.Name x p) (.Name y py :: es) [] pos) (mCallS rk kd mf i n ma) := by
  obtain ⟨f, fd, ps', F1, hm, hkp, hb⟩ := F
  refine PE.imp (pg_call F1 hr hgd hg hm hkp hb hx (pa_cons (pe_var hN hv hd hcd) ha he) hdb he hpl) fun σ H Q q => ?_
  obtain ⟨G, F, env, d, env', I, hm', q⟩ := q
  obtain ⟨s0, os, e1, s, ds, yv, outs, h0, h1, h2, h3, h4, h5, h6, h7, rfl⟩ := mCallS_some hm'
  have hi0 : i < ks.length := (List.getElem?_eq_some_iff.mp hk).1
  obtain ⟨v, _, hσ, _, _⟩ := I.sl i s0 kd h0 hk
  refine ⟨v, hσ, G, F, env, os, e1, I, h1, fun vs F1 H1 S1 I1 r1 => ?_⟩
  obtain ⟨v', Fi, hσ', hF, ho⟩ := I1.sl i s kd h2 hk
  have ev : v' = v := by rw [hσ] at hσ'; exact (Option.some.inj (Option.some.inj hσ')).symm
  subst ev
  have inF : ∀ {a : Addr}, a ∈ Fi → a ∈ F1.flatten := fun {a} h => mem_flat.mpr ⟨i, Fi, hF, h⟩
  -- what the def is to keep apart from
  let Gc : Addr → Prop := fun a => os.any Opd.own = false ∧ OO G F1 a ∧ a ∉ Fi
  have lessC : ∀ a, OO Gc [Fi] a → OO G F1 a := fun a z => by
    rcases z with z | z
    · exact z.2.1
    · exact .inr (inF (by simpa using z))
  have ra : RepA X.K H1 (OO Gc [Fi]) ds vs := by
    cases hb2 : os.any Opd.own with
    | false =>
      have := HoldsA.rep I1 r1 h3
      rw [hb2] at this
      exact RepA.kp (Kp.less lessC) this
    | true =>
      refine HoldsA.apart I1 hF (fun a z => ?_) r1 h3 h5
      rcases z with z | z
      · have z1 : os.any Opd.own = false := z.1
        rw [hb2] at z1; cases z1
      · simpa using z
  have hlv : vs.length = n := by rw [← ra.length]; exact h4
  refine ⟨by simp [hlv], Gc, Fi :: List.replicate n [], s :: ds, d, yv :: outs, own_EI hne (I1.nd.own i Fi hF) (fun a ha => ⟨(I1.tr a (inF ha)).1, fun z => z.2.2 ha⟩) (fun a z => I1.oo a z.2.1) (ho.kp (Kp.less lessC) fun a _ ob e => e) ra h4, h6, fun w F' H' Fr S J o nF hFr => ?_⟩
  have fl : ∀ {a : Addr}, a ∈ (Fi :: List.replicate n ([] : List Addr)).flatten ↔ a ∈ Fi := fun {a} => by
    rw [List.flatten_cons, List.mem_append]
    exact ⟨fun z => z.elim id fun z => absurd z noF_rep, .inl⟩
  obtain ⟨v2, Fi2, e2, eF2, o2⟩ := J.sl 0 yv kd rfl rfl
  have e3 : v2 = v' := by simpa using e2.symm
  subst e3
  have inF' : ∀ {a : Addr}, a ∈ Fi2 → a ∈ F'.flatten := fun {a} h => mem_flat.mpr ⟨0, Fi2, eF2, h⟩
  have more : os.any Opd.own = false → ∀ a, OO (fun a => G a ∨ a ∈ Fr) (F1.set i Fi2) a → OO (fun a => Gc a ∨ a ∈ Fr) F' a := fun hb2 a z => by
    rcases z with (z | z) | z
    · exact .inl (.inl ⟨hb2, .inl z, fun m => (I1.tr a (inF m)).2 z⟩)
    · exact .inl (.inr z)
    · rcases mem_set z with m | ⟨j, Fj, hj, e, m⟩
      · exact .inr (inF' m)
      · exact .inl (.inl ⟨hb2, .inr (mem_flat.mpr ⟨j, Fj, e, m⟩), fun m2 => hj (I1.nd.apart j i Fj Fi a e hF m m2)⟩)
  have ho2 : OwnAt X.K H' (OO (fun a => G a ∨ a ∈ Fr) (F1.set i Fi2)) kd Fi2 yv v2 := by
    cases hb2 : os.any Opd.own with
    | false => exact o2.kp (Kp.less (more hb2)) fun a _ ob e => e
    | true =>
      have := (h7 hb2).2
      subst this
      exact o2
  have newG : ∀ a ∈ Fi2, ¬ (G a ∨ a ∈ Fr) := fun a ha z => by
    rcases z with z | z
    · rcases S.new a (inF' ha) with y | y
      · exact (I1.tr a (inF (fl.mp y))).2 z
      · exact I1.gt a z y
    · exact (J.tr a (inF' ha)).2 (.inr z)
  obtain ⟨I2, S2⟩ := I1.swap2 (G' := fun a => G a ∨ a ∈ Fr) (Fi' := Fi2) (d := yv) hF hk hne hσ (fun a u e n => S.keep a u e fun z => n (fl.mp z)) S.dom S.tup S.frz (J.nd.own 0 Fi2 eF2) (fun a ha => ⟨(S.new a (inF' ha)).imp fl.mp id, (J.tr a (inF' ha)).1, newG a ha⟩)
    (fun a z => z.imp id fun z => (hFr a z).2.imp fl.mp id) (fun a z => z.elim (fun z => S.dom a (I1.gt a z)) fun z => J.gt a (.inr z)) ho2
  refine q w _ H' Fr (S1.trans S2) I2 ?_ nF fun a ha => ⟨fun z => (hFr a ha).2.elim (fun m => (I1.tr a (inF (fl.mp m))).2 z) (I1.gt a z), S1.nw ((hFr a ha).2.imp (fun m => inF (fl.mp m)) id)⟩
  cases hb2 : os.any Opd.own with
  | false => exact o.kp (Kp.less (more hb2)) fun a _ ob e => e
  | true => exact OwnAt.imm (h7 hb2).1 o
theorem ed_callS {k n i : Nat} {x y : Str} {p py : Pos} {kd : Kd} {mf : List PyData → Option (PyData × List PyData)} {ma : M (List Opd)} (F : FnD X.prog X.w X.K X.mg X.base k x (kd :: List.replicate n .frz) rk mf) (hr : Room k X.A) (hgd : X.A.guards = some []) (hg : Gl X x)
    (hx : Passes CX0 X E0) (hne : kd ≠ .frz) (hN : X.N[i]? = some y) (hk : ks[i]? = some kd) (hv : Vis X.env.scope y) (ha : AoD X ks ps es ma) (hd : (y == ("__debug__" : Str)) = false := by decide) (hcd : (y == ("__classdict__" : Str)) = false := by decide) (hdb : (x == ("__debug__" : Str)) = false := by decide)
    (he : starEach (.Name y py :: es) X.env = (false, eval (.Name y py) X.env) :: starEach es X.env := by rfl) (hpl : (backTo pos (starEach es X.env)).any (·.1) = false := by rfl) :
    ED X ks ps (.Call (.Name x p) (.Name y py :: es) [] pos) (mCallS rk kd mf i n ma) := ed_own (fd_callS F hr hgd hg hx hne hN hk hv ha hd hcd hdb he hpl)

/-! ### lists of one's own, changed -/
theorem EI.putL {K : PySem.W.Frag} {G : Addr → Prop} {F : List (List Addr)} {σ : L2.St} {H : Hp} {env : Ev} {i : Nat} {ds : List PyData} (I : EI K ks ps G F σ H env) (h : env[i]? = some (some (.list ds))) (hk : ks[i]? = some .l1) :
    ∃ a xs, σ[i]? = some (some (.ref a)) ∧ H a = some (.lst xs) ∧ RepA K H (OO G F) ds xs ∧ ∀ ds' xs', RepA K H (OO G F) ds' xs' → EI K ks ps G F σ (upd H a (.lst xs')) (env.set i (some (.list ds'))) ∧ Stp F H F (upd H a (.lst xs')) ∧ Kp (OO G F) H (OO G F) (upd H a (.lst xs')) := by
  obtain ⟨v, Fi, hσ, hF, o⟩ := I.sl i _ _ h hk
  obtain ⟨a, xs, ds0, rfl, e, rfl, eH, r⟩ := o
  cases e
  have inF : a ∈ F.flatten := mem_flat.mpr ⟨i, [a], hF, List.mem_singleton.mpr rfl⟩
  refine ⟨a, xs, hσ, eH, r, fun ds' xs' r' => ?_⟩
  have kp : Kp (OO G F) H (OO G F) (upd H a (.lst xs')) := Kp.put (.inr inF) eH
  have eF : F.set i [a] = F := by
    refine List.ext_getElem? fun j => ?_
    rw [List.getElem?_set]
    by_cases hj : i = j
    · subst hj
      rw [if_pos rfl, hF, if_pos (List.getElem?_eq_some_iff.mp hF).1]
    · rw [if_neg hj]
  have := I.swap (H' := upd H a (.lst xs')) (Fi' := [a]) (d := .list ds') hF hk (by decide) hσ (fun b u e n => by rw [upd_ne (fun z => n (by rw [z]; exact List.mem_singleton.mpr rfl))]; exact e) (fun b e => by
      by_cases hb : b = a
      · subst hb; rw [upd_same]; simp
      · rw [upd_ne hb]; exact e) kp.tup kp.frz (List.nodup_cons.mpr ⟨List.not_mem_nil, List.nodup_nil⟩) (fun b hb => ⟨.inl hb, by rw [List.mem_singleton.mp hb, upd_same]; simp⟩)
    (by rw [eF]; exact ⟨a, xs', ds', rfl, rfl, rfl, upd_same, RepA.kp kp r'⟩)
  rw [eF] at this
  exact ⟨this.1, this.2, kp⟩
def lstAt (i : Nat) (e : Ev) : Option (List PyData) := match e[i]? with
  | some (some (.list ds)) => some ds
  | _ => none
theorem lstAt_some {i : Nat} {e : Ev} {ds : List PyData} (h : lstAt i e = some ds) : e[i]? = some (some (.list ds)) := by
  unfold lstAt at h
  split at h
  · cases h; assumption
  · cases h
/-- x.append(e) -/
def mApp (i : Nat) (m : M PyData) : M PyData := fun e => match lstAt i e with
  | none => none
  | some _ => match m e with
    | none => none
    | some (y, e1) => match lstAt i e1 with
      | none => none
      | some ds => if ds.length ≤ 1000000 then some (.none, e1.set i (some (.list (ds ++ [y])))) else none
theorem ed_append {i : Nat} {x : Str} {m : M PyData} {apos : Pos} (hN : X.N[i]? = some x) (hk : ks[i]? = some .l1) (he : ED X ks ps e m) (hv : Vis X.env.scope x := by first | exact Or.inl rfl | exact Or.inr (Or.inl rfl) | exact Or.inr (Or.inr rfl)) (hd : (x == ("__debug__" : Str)) = false := by decide)
    (hcd : (x == ("__classdict__" : Str)) = false := by decide) (hs : starEach [e] X.env = (false, eval e X.env) :: starEach [] X.env := by rfl)
    (hfew : ((backTo pos (starEach [e] X.env)).all (fun x => !x.1) && (backToKw pos (keywordEach [] X.env)).all (fun x => x.1.isSome) && decide ([e].length + ([] : List Keyword).length + (if ([] : List Keyword).isEmpty then 0 else 1) < 30)) = true := by rfl)
    (hline : (apos.endLine == pos.line) = true := by rfl) (hbase : attributeBase (.Name x pos') "append" X.env (eval (.Name x pos') X.env) = eval (.Name x pos') X.env := by rfl) : ED X ks ps (.Call (.Attribute (.Name x pos') "append" apos) [e] [] pos) (mApp i m) :=
  PE.imp (pe_bm PySem.F.plainAttrs_list PySem.F.slot_list_append PySem.F.type_list_append mt_append (pe_var hN hv hd hcd) (pa_cons he pa_nil hs) hbase hfew hline hs) fun σ H Q q => by
    obtain ⟨G, F, env, d, env', I, hm, q⟩ := q
    unfold mApp at hm
    split at hm
    · cases hm
    · rename_i ds0 h0
      split at hm
      · cases hm
      · rename_i y e1 h1
        split at hm
        · cases hm
        · rename_i ds h2
          split at hm
          · cases hm
            rename_i hl
            obtain ⟨a, xs, hσ, eH, r, _⟩ := I.putL (lstAt_some h0) hk
            refine ⟨_, hσ, .inl ⟨rfl, xs, .inl (.inl eH)⟩, G, F, env, y, e1, I, h1, fun w F1 H1 S1 I1 r1 => ?_⟩
            obtain ⟨a', xs', hσ', eH', r', put⟩ := I1.putL (lstAt_some h2) hk
            have ea : a' = a := by rw [hσ] at hσ'; cases hσ'; rfl
            subst ea
            obtain ⟨J, S, kp⟩ := put (ds ++ [y]) (xs' ++ [w]) (r'.append (.cons r1 .nil))
            refine ⟨a', xs', w, rfl, rfl, eH', Nat.lt_of_le_of_lt (by rw [← r'.length]; exact hl) (by rw [sizeLine_eq]; decide), q .non F1 _ (S1.trans S) J rep_non⟩
          · cases hm
end
end DL

/-! DLH: the law's source. -/
namespace DL
open PySem PySem.Spec PyProof.Rows L2
section
variable {rk : Kd} {X : Cx} {ks : List Kd} {ps : List (Nat × V)} {a b c e o : Expr} {es : List Expr} {pos pos' : Pos}

/-- what a slot owns is given away whole -/
theorem EI.giveO {K : PySem.W.Frag} {G : Addr → Prop} {F : List (List Addr)} {σ : L2.St} {H : Hp} {env : Ev} {i : Nat} {kd : Kd} {d : PyData} (I : EI K ks ps G F σ H env) (h1 : env[i]? = some (some d)) (hk : ks[i]? = some kd) :
    ∃ v Fi, σ[i]? = some (some v) ∧ F[i]? = some Fi ∧ EI K ks ps (fun a => G a ∨ a ∈ Fi) (F.set i []) σ H (env.set i none) ∧ OwnAt K H (OO (fun a => G a ∨ a ∈ Fi) (F.set i [])) kd Fi d v := by
  have hi : i < ks.length := (List.getElem?_eq_some_iff.mp hk).1
  obtain ⟨v, Fi, e1, e2, o⟩ := I.sl i d _ h1 hk
  have inF : ∀ {a : Addr}, a ∈ Fi → a ∈ F.flatten := fun {a} h => mem_flat.mpr ⟨i, Fi, e2, h⟩
  have less : ∀ a, OO (fun a => G a ∨ a ∈ Fi) (F.set i []) a → OO G F a := fun a z => by
    rcases z with (z | z) | z
    · exact .inl z
    · exact .inr (inF z)
    · rcases mem_set z with h | ⟨j, Fj, hj, e, m⟩
      · cases h
      · exact .inr (mem_flat.mpr ⟨j, Fj, e, m⟩)
  refine ⟨v, Fi, e1, e2, ⟨by rw [List.length_set]; exact I.lF, by rw [List.length_set]; exact I.lE, I.lS, I.nd.set List.nodup_nil (fun a ha => nomatch ha), fun a ha => ?_, fun a z => z.elim (I.gt a) fun z => (I.tr a (inF z)).1, fun j d' kd' h3 h4 => ?_, I.pn, fun j h => ?_⟩, o.kp (Kp.less less) fun a _ ob e => e⟩
  · rcases mem_set ha with h | ⟨j, Fj, hj, e, m⟩
    · cases h
    · have t := I.tr a (mem_flat.mpr ⟨j, Fj, e, m⟩)
      exact ⟨t.1, fun z => z.elim t.2 fun z => hj (I.nd.apart j i Fj Fi a e e2 m z)⟩
  · by_cases hj : j = i
    · subst hj
      rw [List.getElem?_set_self (by rw [I.lE]; exact hi)] at h3
      exact nomatch (Option.some.inj h3)
    · rw [List.getElem?_set_ne (Ne.symm hj)] at h3
      obtain ⟨w, Fj, g1, g2, o'⟩ := I.sl j d' kd' h3 h4
      exact ⟨w, Fj, g1, by rw [List.getElem?_set_ne (Ne.symm hj)]; exact g2, o'.kp (Kp.less less) fun a _ ob e => e⟩
  · by_cases hj : j = i
    · subst hj
      rw [List.getElem?_set_self (by rw [I.lF]; exact hi)]
    · rw [List.getElem?_set_ne (Ne.symm hj)]
      exact I.fz j h
theorem fd_take (i : Nat) {x : Str} {kd : Kd} (hN : X.N[i]? = some x := by rfl) (hk : ks[i]? = some kd := by rfl) (hv : Vis X.env.scope x := by first | exact Or.inl rfl | exact Or.inr (Or.inl rfl) | exact Or.inr (Or.inr rfl)) (hd : (x == ("__debug__" : Str)) = false := by decide)
    (hcd : (x == ("__classdict__" : Str)) = false := by decide) : FD X ks ps kd (.Name x pos) (mTake i) := PE.imp (pe_var hN hv hd hcd) fun σ H Q q => by
  obtain ⟨G, F, env, d, env', I, hm, q⟩ := q
  unfold mTake at hm
  split at hm
  · rename_i d' he
    cases hm
    obtain ⟨v, Fi, e1, e2, J, o⟩ := I.giveO he hk
    have inF : ∀ {a : Addr}, a ∈ Fi → a ∈ F.flatten := fun {a} h => mem_flat.mpr ⟨i, Fi, e2, h⟩
    exact ⟨v, e1, q v _ H Fi ⟨fun _ _ e _ => e, fun _ e => e, fun _ _ e => e, fun _ _ _ e => e, fun a ha => by
      rcases mem_set ha with h | ⟨j, Fj, hj, e, m⟩
      · cases h
      · exact .inl (mem_flat.mpr ⟨j, Fj, e, m⟩)⟩ J o (I.nd.own i Fi e2) fun a ha => ⟨(I.tr a (inF ha)).2, .inl (inF ha)⟩⟩
  · cases hm
/-- xs[::-1], new -/
theorem fd_revL {k : Nat} {p1 p2 p3 : Pos} {m : M Opd} (ha : RD X ks ps a m) : FD X ks ps .l1 (.Subscript a (.Slice none none (some (.UnaryOp .USub (.Constant (.int 1) k p1) p2)) p3) pos) (mUn revD m) :=
  PE.imp (pe_revL ha) fun σ H Q q => by
    obtain ⟨G, F, env, d, env', I, hm, q⟩ := q
    obtain ⟨ox, e1, h1, h2⟩ := bnd_some hm
    obtain ⟨rfl, dx, g1, g3, gi⟩ := rs1_some h2
    refine ⟨G, F, env, ox, env', I, h1, fun v F1 H1 S1 I1 r1 => ?_⟩
    have r := HoldsO.rep I1 r1 g1
    unfold revD at g3
    split at g3
    · cases g3
      simp only [Rep] at r
      obtain ⟨p, vs, rfl, t1, a1⟩ := r
      have nown : ox.own = false := by
        have z := gi
        simpa [imm] using z
      rw [nown] at a1
      refine ⟨p, vs, rfl, t1.sq, fun l hl => ?_⟩
      refine q _ F1 _ [l] (S1.trans (.same (same_upd hl))) (fresh_own I1 hl) ⟨l, _, _, rfl, rfl, rfl, upd_same, RepA.kp (fresh_kp hl) a1.reverse⟩ (List.nodup_cons.mpr ⟨List.not_mem_nil, List.nodup_nil⟩) fun a ha => ?_
      rw [List.mem_singleton.mp ha]
      exact ⟨fun z => I1.gt l z hl, .inr (S1.back hl)⟩
    · cases g3

/-! ### the source -/
def srcL (c : Addr) (left mixed turn : Int) : List (L2.Key × V) := [(Sum.inr "cells", .ref c), (Sum.inr "left", .int left), (Sum.inr "mixed", .int mixed), (Sum.inr "turn", .int turn)]
/-- what is read of a datum as a source -/
def srcOf : PyData → Option (List Int × Int × Int × Int)
  | .dict [(.str a, .list cs), (.str b, .int l), (.str c, .int m), (.str d, .int t)] => if a = "cells" ∧ b = "left" ∧ c = "mixed" ∧ d = "turn" then (intsOf cs).map fun ns => (ns, l, m, t) else none
  | _ => none
theorem srcOf_srcD (cs : List Int) (l m t : Int) : srcOf (srcD cs l m t) = some (cs, l, m, t) := by
  unfold srcOf srcD
  simp [intsOf_map]
theorem intsOf_eq : ∀ {ds : List PyData} {ns : List Int}, intsOf ds = some ns → ds = ns.map PyData.int
  | [], ns, h => by cases h; rfl
  | d :: ds, ns, h => by
    cases d <;> unfold intsOf at h <;> try cases h
    split at h
    · rename_i ns' g
      cases h
      rw [List.map_cons, ← intsOf_eq g]
    · cases h
theorem srcOf_eq {d : PyData} {cs : List Int} {l m t : Int} (h : srcOf d = some (cs, l, m, t)) : d = srcD cs l m t := by
  unfold srcOf at h
  split at h
  · split at h
    · rename_i z
      obtain ⟨ns, g, e⟩ := Option.map_eq_some_iff.mp h
      cases e
      obtain ⟨rfl, rfl, rfl, rfl⟩ := z
      unfold srcD
      rw [intsOf_eq g]
    · cases h
  · cases h
def srcAt (i : Nat) (e : Ev) : Option (List Int × Int × Int × Int) := match e[i]? with
  | some (some d) => srcOf d
  | _ => none
/-- so many turns at most, where the source's cells are taken one by one -/
def srcFuel (i : Nat) (e : Ev) : Nat := match srcAt i e with
  | some s => s.1.length + 1
  | none => 0
theorem srcAt_some {i : Nat} {e : Ev} {cs : List Int} {l m t : Int} (h : srcAt i e = some (cs, l, m, t)) : e[i]? = some (some (srcD cs l m t)) := by
  unfold srcAt at h
  split at h
  · rename_i d hd
    rw [hd, srcOf_eq h]
  · cases h
theorem EI.src {K : PySem.W.Frag} {G : Addr → Prop} {F : List (List Addr)} {σ : L2.St} {H : Hp} {env : Ev} {i : Nat} {cs : List Int} {l m t : Int} (I : EI K ks ps G F σ H env) (h : env[i]? = some (some (srcD cs l m t))) (hk : ks[i]? = some .src) :
    ∃ a c, σ[i]? = some (some (.ref a)) ∧ H a = some (.dK (srcL c l m t)) ∧ H c = some (.lst (cs.map V.int)) ∧
      (∀ cs', EI K ks ps G F σ (upd H c (.lst (cs'.map V.int))) (env.set i (some (srcD cs' l m t))) ∧ Stp F H F (upd H c (.lst (cs'.map V.int)))) ∧
      (∀ l' m' t', EI K ks ps G F σ (upd H a (.dK (srcL c l' m' t'))) (env.set i (some (srcD cs l' m' t'))) ∧ Stp F H F (upd H a (.dK (srcL c l' m' t')))) := by
  obtain ⟨v, Fi, hσ, hF, o⟩ := I.sl i _ _ h hk
  obtain ⟨a, c, cs0, l0, m0, t0, rfl, e, rfl, eH, eC⟩ := o
  have e' := congrArg srcOf e
  rw [srcOf_srcD, srcOf_srcD] at e'
  obtain ⟨rfl, rfl, rfl, rfl⟩ : cs = cs0 ∧ l = l0 ∧ m = m0 ∧ t = t0 := by simpa using e'
  have hac : a ≠ c := fun z => by rw [z, eC] at eH; cases eH
  have inF : ∀ {b : Addr}, b ∈ [a, c] → b ∈ F.flatten := fun {b} hb => mem_flat.mpr ⟨i, [a, c], hF, hb⟩
  have nd : [a, c].Nodup := by simp [hac]
  have eF : F.set i [a, c] = F := by
    refine List.ext_getElem? fun j => ?_
    rw [List.getElem?_set]
    by_cases hj : i = j
    · subst hj
      rw [if_pos rfl, hF, if_pos (List.getElem?_eq_some_iff.mp hF).1]
    · rw [if_neg hj]
  have go : ∀ (p : Addr) (u : HO) (d : PyData), p ∈ [a, c] → (∀ xs, H p ≠ some (.tup xs)) → (∀ o u, H p ≠ some (.frz o u)) → OwnAt K (upd H p u) (OO G F) .src [a, c] d (.ref a) → EI K ks ps G F σ (upd H p u) (env.set i (some d)) ∧ Stp F H F (upd H p u) := by
    intro p u d hp n1 n2 ho
    have ne : ∀ {b : Addr} {o : HO}, H b = some o → b ∉ [a, c] → upd H p u b = some o := fun {b o} e n => by rw [upd_ne (fun z => n (by rw [z]; exact hp))]; exact e
    have := I.swap (H' := upd H p u) (Fi' := [a, c]) (d := d) hF hk (by decide) hσ (fun b o e n => ne e n) (fun b e => by
      by_cases hb : b = p
      · subst hb; rw [upd_same]; simp
      · rw [upd_ne hb]; exact e) (fun b xs e => by
      by_cases hb : b = p
      · subst hb; exact absurd e (n1 xs)
      · rw [upd_ne hb]; exact e) (fun b o u' e => by
      by_cases hb : b = p
      · subst hb; exact absurd e (n2 o u')
      · rw [upd_ne hb]; exact e) nd (fun b hb => ⟨.inl hb, by
      by_cases hb' : b = p
      · subst hb'; rw [upd_same]; simp
      · rw [upd_ne hb']; exact (I.tr b (inF hb)).1⟩) (by rw [eF]; exact ho)
    rw [eF] at this
    exact this
  refine ⟨a, c, hσ, eH, eC, fun cs' => go c _ _ (by simp) (by rw [eC]; intro _ z; cases z) (by rw [eC]; intro _ _ z; cases z) ?_, fun l' m' t' => go a _ _ (by simp) (by rw [eH]; intro _ z; cases z) (by rw [eH]; intro _ _ z; cases z) ?_⟩
  · exact ⟨a, c, cs', l, m, t, rfl, rfl, rfl, by rw [upd_ne hac]; exact eH, upd_same⟩
  · exact ⟨a, c, cs, l', m', t', rfl, rfl, rfl, upd_same, by rw [upd_ne (Ne.symm hac)]; exact eC⟩

inductive SKey where | left | mixed | turn
def SKey.str : SKey → Str
  | .left => "left"
  | .mixed => "mixed"
  | .turn => "turn"
def SKey.get : SKey → List Int × Int × Int × Int → Int
  | .left, s => s.2.1
  | .mixed, s => s.2.2.1
  | .turn, s => s.2.2.2
def SKey.put : SKey → Int → List Int × Int × Int × Int → List Int × Int × Int × Int
  | .left, x, s => (s.1, x, s.2.2.1, s.2.2.2)
  | .mixed, x, s => (s.1, s.2.1, x, s.2.2.2)
  | .turn, x, s => (s.1, s.2.1, s.2.2.1, x)
def srcDt (s : List Int × Int × Int × Int) : PyData := srcD s.1 s.2.1 s.2.2.1 s.2.2.2
theorem SKey.val {c : Addr} {l m t : Int} (k : SKey) (cs : List Int) : valV (srcL c l m t) (Sum.inr k.str) = some (.int (k.get (cs, l, m, t))) := by
  cases k <;> rfl
theorem src_cells {c : Addr} {l m t : Int} : valV (srcL c l m t) (Sum.inr "cells") = some (.ref c) := rfl
theorem SKey.putK {c : Addr} {l m t x : Int} (k : SKey) (cs : List Int) : L2.putK (srcL c l m t) (Sum.inr k.str) (.int x) = srcL c (k.put x (cs, l, m, t)).2.1 (k.put x (cs, l, m, t)).2.2.1 (k.put x (cs, l, m, t)).2.2.2 := by
  cases k <;> rfl
/-- source['left'] -/
def mSrcGet (i : Nat) (k : SKey) : M PyData := fun e => match srcAt i e with
  | some s => some (.int (k.get s), e)
  | none => none
theorem ed_srcGet {i : Nat} {x : Str} {kc : Nat} {p1 p2 : Pos} (k : SKey) (hu : X.A.units + 1 < cLine) (hN : X.N[i]? = some x) (hk : ks[i]? = some .src) (hv : Vis X.env.scope x := by first | exact Or.inl rfl | exact Or.inr (Or.inl rfl) | exact Or.inr (Or.inr rfl))
    (hd : (x == ("__debug__" : Str)) = false := by decide) (hcd : (x == ("__classdict__" : Str)) = false := by decide) : ED X ks ps (.Subscript (.Name x p1) (.Constant (.str k.str) kc p2) pos) (mSrcGet i k) :=
  PE.imp (pe_dget hu (pe_var hN hv hd hcd) pe_str (by exact fun _ _ => rfl)) fun σ H Q q => by
    obtain ⟨G, F, env, d, env', I, hm, q⟩ := q
    unfold mSrcGet at hm
    split at hm
    · rename_i s hs
      cases hm
      obtain ⟨cs, l, m, t⟩ := s
      obtain ⟨a, c, hσ, eH, _, _, _⟩ := I.src (srcAt_some hs) hk
      exact ⟨_, hσ, a, _, rfl, .inl ⟨_, Sum.inr k.str, .inl eH, rfl, (k.val cs).symm⟩, q _ F H .refl I rep_int⟩
    · cases hm

/-- source['left'] = e -/
def sSrcPut (i : Nat) (k : SKey) (m : M PyData) : B := fun e => match m e with
  | some (.int x, e1) => match srcAt i e1 with
    | some s => some (.nx (e1.set i (some (srcDt (k.put x s)))))
    | none => none
  | _ => none
theorem sd_srcPut {i : Nat} {x : Str} {kc : Nat} {p1 p2 p3 : Pos} {m : M PyData} (k : SKey) (hu : X.A.units + 1 < cLine) (hN : X.N[i]? = some x) (hk : ks[i]? = some .src) (he : ED X ks ps e m) (hv : Vis X.env.scope x := by first | exact Or.inl rfl | exact Or.inr (Or.inl rfl) | exact Or.inr (Or.inr rfl))
    (hd : (x == ("__debug__" : Str)) = false := by decide) (hcd : (x == ("__classdict__" : Str)) = false := by decide) (hs : swapsWith e (some (.Subscript (.Name x p1) (.Constant (.str k.str) kc p2) p3)) pos.line X.env = pure false := by rfl) :
    SD X ks ps rk (.Assign [.Subscript (.Name x p1) (.Constant (.str k.str) kc p2) p3] e pos) (sSrcPut i k m) :=
  PS.imp (ps_dput hu (pe_var hN hv hd hcd) pe_str he hs) fun D σ H q => by
    obtain ⟨G, F, env, out, I, hm, q⟩ := q
    unfold sSrcPut at hm
    split at hm
    · rename_i y e1 h1
      split at hm
      · rename_i s hs2
        cases hm
        refine ⟨G, F, env, _, e1, I, h1, fun v F1 H1 S1 I1 r1 => ?_⟩
        obtain ⟨cs, l, m, t⟩ := s
        obtain ⟨a, c, hσ, eH, _, _, put⟩ := I1.src (srcAt_some hs2) hk
        obtain ⟨J, S⟩ := put (k.put y (cs, l, m, t)).2.1 (k.put y (cs, l, m, t)).2.2.1 (k.put y (cs, l, m, t)).2.2.2
        simp only [Rep] at r1
        subst r1
        refine ⟨_, hσ, a, _, rfl, .inl ⟨_, Sum.inr k.str, eH, rfl, by rw [sizeLine_eq]; exact (Nat.le_of_ble_eq_true rfl : 5 ≤ 16777216), rfl⟩, ?_⟩
        rw [k.putK cs]
        have ec : (k.put y (cs, l, m, t)).1 = cs := by cases k <;> rfl
        have e2 : srcDt (k.put y (cs, l, m, t)) = srcD cs (k.put y (cs, l, m, t)).2.1 (k.put y (cs, l, m, t)).2.2.1 (k.put y (cs, l, m, t)).2.2.2 := by unfold srcDt; rw [ec]
        rw [e2] at q
        exact q _ F1 _ (S1.trans S) J
      · cases hm
    · cases hm
/-- len(source['cells']) -/
def mSrcLen (i : Nat) : M PyData := fun e => match srcAt i e with
  | some s => some (.int (s.1.length : Int), e)
  | none => none
theorem ed_srcLen {i : Nat} {x : Str} {kc : Nat} {p1 p2 p3 p4 : Pos} (hu : X.A.units + 1 < cLine) (hg : Gl X "len") (hm : X.mg "len" = none) (hN : X.N[i]? = some x) (hk : ks[i]? = some .src) (hv : Vis X.env.scope x := by first | exact Or.inl rfl | exact Or.inr (Or.inl rfl) | exact Or.inr (Or.inr rfl))
    (hd : (x == ("__debug__" : Str)) = false := by decide) (hcd : (x == ("__classdict__" : Str)) = false := by decide)
    (he : starEach [.Subscript (.Name x p1) (.Constant (.str "cells") kc p2) p3] X.env = [(false, eval (.Subscript (.Name x p1) (.Constant (.str "cells") kc p2) p3) X.env)] := by rfl) :
    ED X ks ps (.Call (.Name "len" p4) [.Subscript (.Name x p1) (.Constant (.str "cells") kc p2) p3] [] pos) (mSrcLen i) :=
  PE.imp (pe_callB call_len hg hm boot_len (pa_cons (pe_dget hu (pe_var hN hv hd hcd) pe_str (by exact fun _ _ => rfl)) pa_nil he) (by decide) (by decide) he) fun σ H Q q => by
    obtain ⟨G, F, env, d, env', I, hm, q⟩ := q
    unfold mSrcLen at hm
    split at hm
    · rename_i s hs
      cases hm
      obtain ⟨cs, l, m, t⟩ := s
      obtain ⟨a, c, hσ, eH, eC, _, _⟩ := I.src (srcAt_some hs) hk
      refine ⟨_, hσ, a, _, rfl, .inl ⟨_, Sum.inr "cells", .inl eH, rfl, src_cells.symm⟩, _, _, rfl, .inl ⟨_, .inl (.inl eC), rfl⟩, ?_⟩
      rw [List.length_map]
      exact q _ F H .refl I rep_int
    · cases hm
/-- source['cells'].pop() -/
def mSrcPop (i : Nat) : M PyData := fun e => match srcAt i e with
  | some (cs, l, m, t) => match cs.getLast? with
    | some x => some (.int x, e.set i (some (srcD cs.dropLast l m t)))
    | none => none
  | none => none
theorem ed_srcPop {i : Nat} {x : Str} {kc : Nat} {p1 p2 p3 apos : Pos} (hu : X.A.units + 1 < cLine) (hN : X.N[i]? = some x) (hk : ks[i]? = some .src) (hv : Vis X.env.scope x := by first | exact Or.inl rfl | exact Or.inr (Or.inl rfl) | exact Or.inr (Or.inr rfl))
    (hd : (x == ("__debug__" : Str)) = false := by decide) (hcd : (x == ("__classdict__" : Str)) = false := by decide) (hline : (apos.endLine == pos.line) = true := by rfl)
    (hbase : attributeBase (.Subscript (.Name x p1) (.Constant (.str "cells") kc p2) p3) "pop" X.env (eval (.Subscript (.Name x p1) (.Constant (.str "cells") kc p2) p3) X.env) = eval (.Subscript (.Name x p1) (.Constant (.str "cells") kc p2) p3) X.env := by rfl) :
    ED X ks ps (.Call (.Attribute (.Subscript (.Name x p1) (.Constant (.str "cells") kc p2) p3) "pop" apos) [] [] pos) (mSrcPop i) :=
  PE.imp (pe_bm0 PySem.F.plainAttrs_list PySem.F.slot_list_pop PySem.F.type_list_pop mt_pop (pe_dget hu (pe_var hN hv hd hcd) pe_str (by exact fun _ _ => rfl)) hbase hline) fun σ H Q q => by
    obtain ⟨G, F, env, d, env', I, hm, q⟩ := q
    unfold mSrcPop at hm
    split at hm
    · rename_i cs l m t hs
      split at hm
      · rename_i y hy
        cases hm
        obtain ⟨a, c, hσ, eH, eC, put, _⟩ := I.src (srcAt_some hs) hk
        obtain ⟨J, S⟩ := put cs.dropLast
        rw [List.map_dropLast] at J S
        refine ⟨_, hσ, a, _, rfl, .inl ⟨_, Sum.inr "cells", .inl eH, rfl, src_cells.symm⟩, .inl ⟨rfl, _, .inl (.inl eC)⟩, c, _, .int y, rfl, rfl, eC, ?_, q _ F _ S J rep_int⟩
        rw [List.length_map, List.getElem?_map]
        rw [List.getLast?_eq_getElem?] at hy
        rw [hy]; rfl
      · cases hm
    · cases hm
/-- {'cells': .., 'left': .., 'mixed': .., 'turn': ..} -/
def mSrcNew (m0 m1 m2 m3 : M PyData) : M PyData := bnd m0 fun d0 => bnd m1 fun d1 => bnd m2 fun d2 => bnd m3 fun d3 => lft (match d0, d1, d2, d3 with
  | .list cs, .int l, .int m, .int t => (intsOf cs).map fun ns => srcD ns l m t
  | _, _, _, _ => none)
theorem fd_srcNew {m0 m1 m2 m3 : M PyData} {e0 e1 e2 e3 : Expr} {k0 k1 k2 k3 : Nat} {p0 p1 p2 p3 : Pos} (h0 : FD X ks ps .l1 e0 m0) (h1 : ED X ks ps e1 m1) (h2 : ED X ks ps e2 m2) (h3 : ED X ks ps e3 m3) :
    FD X ks ps .src (.Dict [some (.Constant (.str "cells") k0 p0), some (.Constant (.str "left") k1 p1), some (.Constant (.str "mixed") k2 p2), some (.Constant (.str "turn") k3 p3)] [e0, e1, e2, e3] pos) (mSrcNew m0 m1 m2 m3) :=
  PE.imp (pe_disp (pps_cons pe_str h0 (pps_cons pe_str h1 (pps_cons pe_str h2 (pps_cons pe_str h3 pps_nil)))) rfl rfl (fun z => nomatch z) (Nat.le_of_ble_eq_true rfl)) fun σ H Q q => by
    obtain ⟨G, F, env, d, env', I, hm, q⟩ := q
    obtain ⟨d0, v0, g0, hma⟩ := bnd_some hm
    obtain ⟨d1, v1, g1, hmb⟩ := bnd_some hma
    obtain ⟨d2, v2, g2, hmc⟩ := bnd_some hmb
    obtain ⟨d3, v3, g3, hmd⟩ := bnd_some hmc
    obtain ⟨hm2, ev⟩ := lft_some hmd
    subst ev
    split at hm2
    · rename_i cs l m t
      obtain ⟨ns, hns, hd⟩ := Option.map_eq_some_iff.mp hm2
      subst hd
      have hcs := intsOf_eq hns
      subst hcs
      intro p hp
      have I0 := fresh_own (u := .dK []) I hp
      refine ⟨_, _, _, _, _, I0, g0, fun w0 F0 H0 Fr S0 J0 o0 n0 hF0 => ?_⟩
      refine ⟨_, _, _, _, _, J0, g1, fun w1 F1 H1 S1 J1 r1 => ?_⟩
      refine ⟨_, _, _, _, _, J1, g2, fun w2 F2 H2 S2 J2 r2 => ?_⟩
      refine ⟨_, _, _, _, _, J2, g3, fun w3 F3 H3 S3 J3 r3 => ?_⟩
      obtain ⟨c, xs, ds, rfl, e, rfl, eC, ra⟩ := o0
      cases e
      simp only [Rep] at r1 r2 r3
      subst r1 r2 r3
      have hx := repA_ints ra
      subst hx
      have S03 := (S1.trans S2).trans S3
      have notp : p ∉ F.flatten := fun z => (I.tr p z).1 hp
      have eP0 : H0 p = some (.dK []) := S0.keep p _ upd_same notp
      have cne : c ≠ p := fun z => by rw [z] at eC; rw [eP0] at eC; cases eC
      have cF : c ∉ F0.flatten := fun z => (J0.tr c z).2 (.inr (by simp))
      have pF : p ∉ F0.flatten := fun z => (J0.tr p z).2 (.inl (.inr (by simp)))
      have eC3 : H3 c = some (.lst (ns.map V.int)) := S03.keep c _ eC cF
      have eP3 : H3 p = some (.dK []) := S03.keep p _ eP0 pF
      refine ⟨eP3, [(Sum.inr "cells", .ref c), (Sum.inr "left", .int l), (Sum.inr "mixed", .int m), (Sum.inr "turn", .int t)], rfl, (Nat.le_of_ble_eq_true rfl : 4 ≤ 15), ?_⟩
      have em : mergeK [] [(Sum.inr "cells", V.ref c), (Sum.inr "left", .int l), (Sum.inr "mixed", .int m), (Sum.inr "turn", .int t)] = srcL c l m t := rfl
      rw [em]
      have hFc := hF0 c (by simp)
      refine q (.ref p) F3 _ [p, c] (((Stp.same (same_upd (o := .dK []) hp)).trans (S0.trans S03)).put hp) ((J3.put (D := p) (o := .dK (srcL c l m t)) (.inl (.inr (by simp))) eP3).lessG fun a z => ?_) ⟨p, c, ns, l, m, t, rfl, rfl, rfl, upd_same, by rw [upd_ne cne]; exact eC3⟩ (by simp [Ne.symm cne]) fun a ha => ?_
      · rcases z with z | z
        · exact .inl (.inl z)
        · rcases List.mem_cons.mp z with z | z
          · exact .inl (.inr (by simp [z]))
          · exact .inr z
      · rcases List.mem_cons.mp ha with z | z
        · subst z
          exact ⟨fun z => I.gt a z hp, .inr hp⟩
        · have z := List.mem_singleton.mp z
          subst z
          exact ⟨fun z => hFc.1 (.inl z), hFc.2.imp id fun z => by rw [upd_ne cne] at z; exact z⟩
    · cases hm2
end
end DL

/-! DLI: a law's own head, for a def over data. -/
namespace DL
open PySem PySem.Spec PyProof.Rows L2

/-- what the law's def is asked: each script's data gives True -/
def Yes (n : Nat) (mf : List PyData → Option (PyData × List PyData)) : Prop := ∀ ns : List Int, ns.length ≤ n → (mf [.list (ns.map PyData.int)]).map (·.1) = some (.bool true)

theorem repA_mapInt {K : PySem.W.Frag} {H : Hp} {O : Addr → Prop} : ∀ ns : List Int, RepA K H O (ns.map PyData.int) (ns.map V.int)
  | [] => .nil
  | n :: ns => .cons rep_int (repA_mapInt ns)
theorem spD_yes {K : PySem.W.Frag} {n : Nat} {mf : List PyData → Option (PyData × List PyData)} (yes : Yes n mf) {H : Hp} {pa : Addr} {ns : List Int} (hn : ns.length ≤ n) (hl : LstAt K H (fun _ => False) pa (ns.map V.int)) : spD K [.frz] .frz mf [.ref pa] H (fun v _ => v = .bl true) fun _ _ _ => False := by
  have hy := yes ns hn
  obtain ⟨⟨d, outs⟩, h1, h2⟩ := Option.map_eq_some_iff.mp hy
  dsimp only at h2
  subst h2
  have h0 : ∀ a, ¬ OO (fun _ => False) [([] : List Addr)] a := fun a z => by
    rcases z with z | z
    · exact z
    · simp at z
  have I : EI K [.frz] [] (fun _ => False) [[]] ([V.ref pa].map some) H ([PyData.list (ns.map PyData.int)].map some) := by
    refine ⟨rfl, rfl, rfl, ⟨fun i Fi e => ?_, fun i j Fi Fj a e1 e2 m1 m2 => ?_⟩, fun a ha => ?_, fun a z => z.elim, fun i d kd e1 e2 => ?_, (fun p hp => nomatch hp), fun i e => ?_⟩
    · cases i with
      | zero => simp at e; subst e; exact List.nodup_nil
      | succ i => simp at e
    · cases i with
      | zero => simp at e1; subst e1; cases m1
      | succ i => simp at e1
    · simp at ha
    · cases i with
      | zero =>
        simp at e1 e2
        subst e1 e2
        refine ⟨.ref pa, [], rfl, rfl, rfl, ?_⟩
        simp only [Rep]
        exact ⟨pa, _, rfl, hl.kp (Kp.less fun a z => (h0 a z).elim), repA_mapInt ns⟩
      | succ i => simp at e1
    · cases i with
      | zero => rfl
      | succ i => simp at e
  refine ⟨rfl, fun _ => False, [[]], _, .bool true, outs, I, h1, fun v F' H' Fr _ _ o _ _ => ?_⟩
  have r := o.2
  simpa only [Rep] using r

theorem headG {P : Program} {w : World} {K : PySem.W.Frag} {mg mb : Str → Option Value} {k : Nat} {pa : Addr} {x : Str} {s₁ : Shared} {us : List Value} {ns : List Int} {mf : List PyData → Option (PyData × List PyData)} {f : Addr} {n : Nat}
    (inK : K.In s₁.heap) (nsM : s₁.heap.Ns mainGlobals mg) (nsB : s₁.heap.Ns builtinsNs mb) (bOk : ∀ y : Str, y ≠ "__name__" → mb y = bootBuiltins y) (free : s₁.heap.NoLimit) (bare : s₁.gens = #[])
    (hp : s₁.heap.get? pa = some { cls := .type "list", data := .seq us.toArray }) (intsA : IntsAre us ns) (hn : ns.length ≤ n) (hsz : ns.length ≤ sizeLine) (room : Room k callerA)
    (hf : mg x = some (.ref f)) (F : ∀ base : Heap, K.In base → base.Ns mainGlobals mg → FnD P w K mg base k x [.frz] .frz mf) (yes : Yes n mf) :
    codeAny (model P w) callerA (.call (.ref f) ⟨[.ref pa], []⟩) (fun r s' => r = .ok (.ret (.bool true)) ∧ OldK s₁.heap s'.heap ∧ s'.os = s₁.os ∧ AllBare s'.gens) s₁ := by
  have relV := vals_ints intsA
  have lenU := intsA.length
  have main : ∀ H : Hp, (∀ b, H b = none ∨ ∃ ob xs, H b = some (.frz ob (.lst xs))) → LstAt K H (fun _ => False) pa (ns.map V.int) → HOk P w H s₁.heap → (∀ b, H b ≠ none → b = pa) → (H pa ≠ none → K.lookup pa = none) →
      codeAny (model P w) callerA (.call (.ref f) ⟨[.ref pa], []⟩) (fun r s' => r = .ok (.ret (.bool true)) ∧ OldK s₁.heap s'.heap ∧ s'.os = s₁.os ∧ AllBare s'.gens) s₁ := by
    intro H onlyS hS okH atP notK
    have inBase : ∀ {b : Addr} {ob : Obj}, s₁.heap.get? b = some ob → H b = none → (hidT s₁.heap H).get? b = some ob := fun h1 h2 => hidT_get h1 h2
    have dictFree : ∀ {b : Addr} {ob : Obj} {es : Array DictEntry} {ep : Nat}, s₁.heap.get? b = some ob → ob.data = .dict es ep → H b = none := by
      intro b ob es ep h1 h2
      cases q : H b with
      | none => rfl
      | some u =>
        obtain rfl := atP b (by rw [q]; exact fun z => nomatch z)
        rw [hp] at h1
        cases h1
        have h3 : Data.seq us.toArray _ = Data.dict es ep := h2
        cases h3
    have nsKeep : ∀ {b : Addr} {m : Str → Option Value}, s₁.heap.Ns b m → (hidT s₁.heap H).Ns b m := by
      rintro b m ⟨ob, es, ep, h1, h2, h3⟩
      exact ⟨ob, es, ep, inBase h1 (dictFree h1 h2), h2, h3⟩
    have inKb : K.In (hidT s₁.heap H) := by
      intro b ob h1
      refine inBase (inK b ob h1) ?_
      cases q : H b with
      | none => rfl
      | some u =>
        obtain rfl := atP b (by rw [q]; exact fun z => nomatch z)
        rw [notK (by rw [q]; exact fun z => nomatch z)] at h1
        cases h1
    have theMod : Mod K mg (hidT s₁.heap H) := by
      refine ⟨inKb, nsKeep nsM, ⟨mb, nsKeep nsB, bOk⟩, ?_⟩
      obtain ⟨mc, h1, h2⟩ := free
      exact ⟨mc, nsKeep h1, h2⟩
    have env0 : Env0 P w K mg (hidT s₁.heap H) callerA [] s₁ H := ⟨rfl, theMod, fun b ob h1 => of_hidT h1, Nat.le_of_eq (hidT_size _ _), trivial, fun b hb => (nomatch hb), okH, .of_eq bare⟩
    obtain ⟨f', fd, qs, FG, hf', _, binds⟩ := F _ inKb (nsKeep nsM)
    rw [hf] at hf'
    cases hf'
    have spec := spD_yes (K := K) yes hn hS
    have l1 : [V.ref pa].length = qs.length := FG.len _ _ _ _ spec
    refine codeAny_mono (FG.run callerA [] s₁ H ⟨[.ref pa], []⟩ ([Value.ref pa] ++ []) [.ref pa] _ _ room rfl env0 (binds s₁ [Value.ref pa] inK (by simpa using l1)) (.cons rfl .nil) spec) fun r s' h => ?_
    rcases r with e | fl
    · exact (show False from h).elim
    · cases fl with
      | next => exact (show False from h).elim
      | brk => exact (show False from h).elim
      | cont => exact (show False from h).elim
      | ret u =>
        obtain ⟨v, H', sameOs, bare', un, okH', rv, e⟩ := h
        obtain rfl : v = .bl true := e
        obtain rfl : u = Value.bool true := rv
        refine ⟨rfl, OldK.of_keep fun b ob h1 => ?_, sameOs, bare'⟩
        cases q : H b with
        | none => exact un.keep b ob h1 q (fun z => nomatch z) (fun z => nomatch z)
        | some u =>
          rcases onlyS b with z | ⟨ob2, xs, z⟩
          · rw [q] at z; exact nomatch z
          · have z2 := un.frzs b ob2 _ z
            obtain ⟨g1, _⟩ := okH b _ z
            obtain ⟨g2, _⟩ := okH' b _ z2
            rw [h1] at g1
            cases g1
            exact g2
  cases hk : K.lookup pa with
  | some ob =>
    have h1 := inK pa ob hk
    rw [hp] at h1
    cases h1
    exact main (fun _ => none) (fun _ => .inl rfl) (.inr ⟨_, us.toArray, _, hk, rfl, rfl, rfl, by rw [List.size_toArray, lenU]; exact hsz, by simpa using relV⟩) (fun b u z => nomatch (show (none : Option HO) = some u from z)) (fun b z => absurd rfl z) (fun z => absurd rfl z)
  | none =>
    have atS : ∀ {b : Addr} {u : HO}, (if b = pa then some (HO.frz { cls := .type "list", data := .seq us.toArray } (.lst (ns.map V.int))) else none) = some u → b = pa ∧ u = .frz { cls := .type "list", data := .seq us.toArray } (.lst (ns.map V.int)) := by
      intro b u z
      split at z
      · cases z; exact ⟨by assumption, rfl⟩
      · cases z
    refine main (fun b => if b = pa then some (.frz { cls := .type "list", data := .seq us.toArray } (.lst (ns.map V.int))) else none) (fun b => ?_) (.rd (.inr ⟨_, if_pos rfl⟩) id) (fun b u z => ?_) (fun b z => ?_) fun _ => hk
    · by_cases h : b = pa
      · exact .inr ⟨_, _, if_pos h⟩
      · exact .inl (if_neg h)
    · obtain ⟨rfl, rfl⟩ := atS z
      exact ⟨hp, by rw [List.length_map]; exact hsz, us, _, relV, hp⟩
    · by_cases h : b = pa
      · exact h
      · exact absurd (if_neg h) z
/-- the goal that k_head leaves, from the def's promise -/
theorem walkG {l : PySem.W.OpenLaw} {n k : Nat} {q : Program} {loose : List Str} {XP : (Str → Option Value) → Heap → Prop} {YP : World → Heap → Prop} {d : DefRec} {K : Params → PySem.W.Frag} {mf : List PyData → Option (PyData × List PyData)}
    (most : l.most = some n) (small : n ≤ sizeLine) (noDef : d.params.defaults = []) (room : Room k callerA) (inK : ∀ (w : World) (h : Heap), YP w h → (K w.params).In h)
    (F : ∀ (w : World) (mg : Str → Option Value) (h : Heap), (K w.params).In h → h.Ns mainGlobals mg → ∀ base : Heap, (K w.params).In base → base.Ns mainGlobals mg → FnD l.prog w (K w.params) mg base k d.name [.frz] .frz mf) (yes : Yes n mf) :
    PySem.W.WalkO q loose XP YP l.row.toRowW d [] (fun f vs => PySem.call f vs) := by
  refine Att.attach_call most noDef fun w s₀ s₁ mg mb fa ob pm cd doc a vs ns G Y ho hd hcd hmg hobj intsA len bare => ?_
  exact headG (inK w _ Y) G.T.g G.T.b G.T.builtins G.T.nolimit bare hobj intsA len (Nat.le_trans len small) room hmg (F w mg _ (inK w _ Y) G.T.g) yes
end DL

/-! DLJ: many names at once; chains; lists put one behind another. -/
namespace DL
open PySem PySem.Spec PyProof.Rows L2

theorem hu1 {k : Nat} {A : Around} (r : Room k A) : A.units + 1 < cLine := by have := r.un; omega
theorem hu64 {k : Nat} {A : Around} (r : Room k A) : A.units + 64 < cLine := by have := r.un; omega
theorem hu65 {k : Nat} {A : Around} (r : Room k A) : A.units + 65 < cLine := by have := r.un; omega
theorem psOk_pins {own : List Nat} {vs : List V} {i : Nat} (h : own.contains i = false) : psOk (pinsOf own vs) i = true := by
  unfold psOk
  rw [List.all_eq_true]
  intro p hp
  obtain ⟨j, hj, e⟩ := List.mem_filterMap.mp hp
  obtain ⟨v, e1, e2⟩ := Option.map_eq_some_iff.mp e
  subst e2
  have : j ≠ i := fun z => by
    subst z
    rw [List.contains_iff_mem.mpr hj] at h
    cases h
  simpa using this
theorem frzAll_pins {ks : List Kd} {own : List Nat} {vs : List V} {l : List Nat} (h : (l.all fun i => decide (ks[i]? = some .frz) && !own.contains i) = true) : frzAll ks (pinsOf own vs) l = true := by
  unfold frzAll
  rw [List.all_eq_true] at h ⊢
  intro i hi
  have := h i hi
  rw [Bool.and_eq_true, Bool.not_eq_true'] at this
  rw [this.1, psOk_pins this.2]
  rfl
def ownOk : List Kd → List Nat → Nat → Bool
  | [], _, _ => true
  | kd :: pk, own, i => (decide (kd = .frz) || own.contains i) && ownOk pk own (i + 1)
theorem ownOk_of : ∀ {pk : List Kd} {own : List Nat} {j : Nat}, ownOk pk own j = true → ∀ (i : Nat) kd, pk[i]? = some kd → kd ≠ .frz → (j + i) ∈ own
  | [], _, _, _, i, kd, e, _ => by simp at e
  | k0 :: pk, own, j, h, i, kd, e, ne => by
    unfold ownOk at h
    rw [Bool.and_eq_true, Bool.or_eq_true, decide_eq_true_eq] at h
    cases i with
    | zero =>
      simp at e
      subst e
      exact List.contains_iff_mem.mp (h.1.resolve_left ne)
    | succ i =>
      have := ownOk_of h.2 i kd (by simpa using e) ne
      rw [show j + (i + 1) = j + 1 + i by omega]
      exact this
theorem hown_of {pk : List Kd} {own : List Nat} (h : ownOk pk own 0 = true) : ∀ (i : Nat) kd, pk[i]? = some kd → kd ≠ .frz → i ∈ own := fun i kd e ne => by
  have := ownOk_of h i kd e ne
  rwa [Nat.zero_add] at this

section
variable {rk : Kd} {X : Cx} {ks : List Kd} {ps : List (Nat × V)} {a b c e o : Expr} {es : List Expr} {pos pos' : Pos}

/-! ### expressions of told kinds -/
def OwnL (K : PySem.W.Frag) (H : Hp) (O : Addr → Prop) : List Kd → List (List Addr) → List PyData → List V → Prop
  | [], Frs, ds, vs => Frs = [] ∧ ds = [] ∧ vs = []
  | kd :: kds, Frs, ds, vs => ∃ Fr Fr' d ds' v vs', Frs = Fr :: Fr' ∧ ds = d :: ds' ∧ vs = v :: vs' ∧ OwnAt K H O kd Fr d v ∧ OwnL K H O kds Fr' ds' vs'
theorem OwnL.kp {K : PySem.W.Frag} {H H' : Hp} {O O' : Addr → Prop} (k : Kp O H O' H') : ∀ {kds : List Kd} {Frs : List (List Addr)} {ds : List PyData} {vs : List V}, (∀ a ∈ Frs.flatten, ∀ o, H a = some o → H' a = some o) → OwnL K H O kds Frs ds vs → OwnL K H' O' kds Frs ds vs
  | [], _, _, _, _, h => h
  | kd :: kds, _, _, _, hF, h => by
    obtain ⟨Fr, Fr', d, ds', v, vs', rfl, rfl, rfl, h1, h2⟩ := h
    exact ⟨Fr, Fr', d, ds', v, vs', rfl, rfl, rfl, h1.kp k fun a ha o e => hF a (by rw [List.flatten_cons]; exact List.mem_append_left _ ha) o e, OwnL.kp k (fun a ha o e => hF a (by rw [List.flatten_cons]; exact List.mem_append_right _ ha) o e) h2⟩
def tAf (K : PySem.W.Frag) (ks : List Kd) (ps : List (Nat × V)) (kds : List Kd) (m : M (List PyData)) : TA := fun σ H Q => ∃ G F env ds env', EI K ks ps G F σ H env ∧ m env = some (ds, env') ∧
  ∀ vs F' H' Frs, Stp F H F' H' → EI K ks ps (fun a => G a ∨ a ∈ Frs.flatten) F' σ H' env' → OwnL K H' (OO (fun a => G a ∨ a ∈ Frs.flatten) F') kds Frs ds vs → Frs.flatten.Nodup → (∀ a ∈ Frs.flatten, ¬ G a ∧ (a ∈ F.flatten ∨ H a = none)) → Q vs H'
abbrev AfD (X : Cx) (ks : List Kd) (ps : List (Nat × V)) (kds : List Kd) (es : List Expr) (m : M (List PyData)) : Prop := PA X es (tAf X.K ks ps kds m)
def mF0 : M (List PyData) := ret []
def mF (m : M PyData) (r : M (List PyData)) : M (List PyData) := bnd m fun d => bnd r fun ds => ret (d :: ds)
theorem af_nil : AfD X ks ps [] [] mF0 := PA.imp pa_nil fun σ H Q q => by
  obtain ⟨G, F, env, ds, env', I, hm, q⟩ := q
  cases hm
  exact q [] F H [] .refl (by rw [List.flatten_nil, noneG]; exact I) ⟨rfl, rfl, rfl⟩ List.nodup_nil fun a ha => nomatch ha
theorem af_cons {kd : Kd} {kds : List Kd} {m : M PyData} {r : M (List PyData)} (h : FD X ks ps kd e m) (hr : AfD X ks ps kds es r) (hs : starEach (e :: es) X.env = (false, eval e X.env) :: starEach es X.env := by rfl) : AfD X ks ps (kd :: kds) (e :: es) (mF m r) :=
  PA.imp (pa_cons h hr hs) fun σ H Q q => by
    obtain ⟨G, F, env, ds, env', I, hm, q⟩ := q
    obtain ⟨d, e1, h1, h2⟩ := bnd_some hm
    obtain ⟨ds', e2, h3, h4⟩ := bnd_some h2
    cases h4
    refine ⟨G, F, env, d, e1, I, h1, fun v F1 H1 Fr S1 I1 o1 n1 hF1 => ⟨_, F1, e1, ds', _, I1, h3, fun vs F2 H2 Frs S2 I2 o2 n2 hF2 => ?_⟩⟩
    have eG : (fun a => (G a ∨ a ∈ Fr) ∨ a ∈ Frs.flatten) = fun a => G a ∨ a ∈ (Fr :: Frs).flatten := by
      funext a
      rw [List.flatten_cons, List.mem_append, or_assoc]
    rw [eG] at I2 o2
    have nFr : ∀ a ∈ Fr, a ∉ F1.flatten := fun a ha z => (I1.tr a z).2 (.inr ha)
    have fr2 : ∀ a, a ∈ Frs.flatten → a ∈ F1.flatten ∨ H1 a = none := fun a ha => (hF2 a ha).2
    refine q (v :: vs) F2 H2 (Fr :: Frs) (S1.trans S2) I2 ⟨Fr, Frs, d, ds', v, vs, rfl, rfl, rfl, o1.kp (S2.kp2 fun a z => ?_) fun a ha ob e => S2.keep a ob e (nFr a ha), o2⟩ ?_ fun a ha => ?_
    · rw [List.flatten_cons, List.mem_append] at z
      rcases z with z | z | z
      · exact .inl (.inl z)
      · exact .inl (.inr z)
      · exact .inr (fr2 a z)
    · rw [List.flatten_cons]
      refine List.nodup_append.mpr ⟨n1, n2, fun a ha b hb z => ?_⟩
      subst z
      exact (hF2 a hb).1 (.inr ha)
    · rw [List.flatten_cons, List.mem_append] at ha
      rcases ha with ha | ha
      · exact hF1 a ha
      · exact ⟨fun z => (hF2 a ha).1 (.inl z), S1.nw (fr2 a ha)⟩

/-- a slot takes a datum of its kind -/
theorem EI.setK {K : PySem.W.Frag} {G : Addr → Prop} {F : List (List Addr)} {σ : L2.St} {H : Hp} {env : Ev} {i : Nat} {kd : Kd} {Fr : List Addr} {d : PyData} {v : V} (I : EI K ks ps (fun a => G a ∨ a ∈ Fr) F σ H env) (hk : ks[i]? = some kd) (hp : psOk ps i = true)
    (hn : Fr.Nodup) (hG : ∀ a ∈ Fr, ¬ G a) (ho : OwnAt K H (OO (fun a => G a ∨ a ∈ Fr) F) kd Fr d v) : EI K ks ps G (F.set i Fr) (σ.set i (some v)) H (env.set i (some d)) := by
  by_cases hne : kd = .frz
  · subst hne
    obtain ⟨rfl, r⟩ := ho
    have eF : F.set i [] = F := by
      refine List.ext_getElem? fun j => ?_
      rw [List.getElem?_set]
      by_cases hj : i = j
      · subst hj
        rw [if_pos rfl, I.fz i hk]
        split
        · rfl
        · rename_i hl
          exact absurd (List.getElem?_eq_some_iff.mp (I.fz i hk)).1 hl
      · rw [if_neg hj]
    rw [eF]
    rw [noneG] at I r
    exact I.set_frz hk (psOk_ne hp) r
  · exact I.setOwn hk hne hp hn hG ho
/-- many slots take their data -/
def stoE : List Nat → List PyData → Ev → Ev
  | i :: is, d :: ds, e => stoE is ds (e.set i (some d))
  | _, _, e => e
def stoS : List Nat → List V → L2.St → L2.St
  | i :: is, v :: vs, σ => stoS is vs (σ.set i (some v))
  | _, _, σ => σ
def stoF : List Nat → List (List Addr) → List (List Addr) → List (List Addr)
  | i :: is, Fr :: Frs, F => stoF is Frs (F.set i Fr)
  | _, _, F => F
def kdsAt (ks : List Kd) (ps : List (Nat × V)) : List Nat → List Kd → Prop
  | [], [] => True
  | i :: is, kd :: kds => ks[i]? = some kd ∧ psOk ps i = true ∧ kdsAt ks ps is kds
  | _, _ => False
theorem EI.setKs {K : PySem.W.Frag} {H : Hp} : ∀ {is : List Nat} {kds : List Kd} {G : Addr → Prop} {F : List (List Addr)} {σ : L2.St} {env : Ev} {Frs : List (List Addr)} {ds : List PyData} {vs : List V}, EI K ks ps (fun a => G a ∨ a ∈ Frs.flatten) F σ H env → kdsAt ks ps is kds →
    Frs.flatten.Nodup → (∀ a ∈ Frs.flatten, ¬ G a) → OwnL K H (OO (fun a => G a ∨ a ∈ Frs.flatten) F) kds Frs ds vs → EI K ks ps G (stoF is Frs F) (stoS is vs σ) H (stoE is ds env) ∧ ∀ a ∈ (stoF is Frs F).flatten, a ∈ F.flatten ∨ a ∈ Frs.flatten
  | [], [], G, F, σ, env, Frs, ds, vs, I, hk, hn, hG, ho => by
    obtain ⟨rfl, rfl, rfl⟩ := ho
    rw [List.flatten_nil, noneG] at I
    exact ⟨I, fun a ha => .inl ha⟩
  | [], _ :: _, _, _, _, _, _, _, _, _, hk, _, _, _ => by unfold kdsAt at hk; exact hk.elim
  | _ :: _, [], _, _, _, _, _, _, _, _, hk, _, _, _ => by unfold kdsAt at hk; exact hk.elim
  | i :: is, kd :: kds, G, F, σ, env, Frs, ds, vs, I, hk, hn, hG, ho => by
    obtain ⟨h1, h2, h3⟩ := hk
    obtain ⟨Fr, Fr', d, ds', v, vs', rfl, rfl, rfl, o1, o2⟩ := ho
    rw [List.flatten_cons] at hn
    obtain ⟨n1, n2, n3⟩ := List.nodup_append.mp hn
    have eG : (fun a => G a ∨ a ∈ (Fr :: Fr').flatten) = fun a => (G a ∨ a ∈ Fr'.flatten) ∨ a ∈ Fr := by
      funext a
      rw [List.flatten_cons, List.mem_append]
      apply propext
      constructor
      · rintro (z | z | z)
        · exact .inl (.inl z)
        · exact .inr z
        · exact .inl (.inr z)
      · rintro ((z | z) | z)
        · exact .inl z
        · exact .inr (.inr z)
        · exact .inr (.inl z)
    rw [eG] at I o1 o2
    have inA : ∀ {a : Addr}, a ∈ Fr → a ∈ (Fr :: Fr').flatten := fun {a} h => by rw [List.flatten_cons]; exact List.mem_append_left _ h
    have inB : ∀ {a : Addr}, a ∈ Fr'.flatten → a ∈ (Fr :: Fr').flatten := fun {a} h => by rw [List.flatten_cons]; exact List.mem_append_right _ h
    have I1 := I.setK (G := fun a => G a ∨ a ∈ Fr'.flatten) h1 h2 n1 (fun a ha z => z.elim (hG a (inA ha)) fun z => n3 a ha a z rfl) o1
    have less : ∀ a, OO (fun a => G a ∨ a ∈ Fr'.flatten) (F.set i Fr) a → OO (fun a => (G a ∨ a ∈ Fr'.flatten) ∨ a ∈ Fr) F a := fun a z => by
      rcases z with z | z
      · exact .inl (.inl z)
      · rcases mem_set z with m | ⟨j, Fj, hj, e, m⟩
        · exact .inl (.inr m)
        · exact .inr (mem_flat.mpr ⟨j, Fj, e, m⟩)
    obtain ⟨J, sub⟩ := EI.setKs I1 h3 n2 (fun a ha => hG a (inB ha)) (o2.kp (Kp.less less) fun a _ ob e => e)
    refine ⟨J, fun a ha => ?_⟩
    rcases sub a ha with z | z
    · rcases mem_set z with m | ⟨j, Fj, hj, e, m⟩
      · exact .inr (inA m)
      · exact .inl (mem_flat.mpr ⟨j, Fj, e, m⟩)
    · exact .inr (inB z)
theorem EI.setKsS {K : PySem.W.Frag} {H H0 : Hp} {is : List Nat} {kds : List Kd} {G : Addr → Prop} {F0 F : List (List Addr)} {σ : L2.St} {env : Ev} {Frs : List (List Addr)} {ds : List PyData} {vs : List V} (S : Stp F0 H0 F H) (I : EI K ks ps (fun a => G a ∨ a ∈ Frs.flatten) F σ H env) (hk : kdsAt ks ps is kds)
    (hn : Frs.flatten.Nodup) (hG : ∀ a ∈ Frs.flatten, ¬ G a ∧ (a ∈ F0.flatten ∨ H0 a = none)) (ho : OwnL K H (OO (fun a => G a ∨ a ∈ Frs.flatten) F) kds Frs ds vs) : EI K ks ps G (stoF is Frs F) (stoS is vs σ) H (stoE is ds env) ∧ Stp F0 H0 (stoF is Frs F) H := by
  obtain ⟨J, sub⟩ := EI.setKs I hk hn (fun a ha => (hG a ha).1) ho
  exact ⟨J, ⟨S.keep, S.dom, S.tup, S.frz, fun a ha => (sub a ha).elim (S.new a) fun z => (hG a z).2⟩⟩
theorem OwnL.len {K : PySem.W.Frag} {H : Hp} {O : Addr → Prop} : ∀ {kds : List Kd} {Frs : List (List Addr)} {ds : List PyData} {vs : List V}, OwnL K H O kds Frs ds vs → vs.length = kds.length ∧ ds.length = kds.length
  | [], _, _, _, h => by obtain ⟨rfl, rfl, rfl⟩ := h; exact ⟨rfl, rfl⟩
  | _ :: _, _, _, _, h => by
    obtain ⟨Fr, Fr', d, ds', v, vs', rfl, rfl, rfl, _, h2⟩ := h
    have := h2.len
    exact ⟨by simp [this.1], by simp [this.2]⟩
/-- a, b, .. = e1, e2, .. -/
def sParK (is : List Nat) (m : M (List PyData)) : B := fun e => match m e with
  | none => none
  | some (ds, e1) => some (.nx (stoE is ds e1))
theorem sParK_some {is : List Nat} {m : M (List PyData)} {e : Ev} {out : Out} (h : sParK is m e = some out) : ∃ ds e1, m e = some (ds, e1) ∧ out = .nx (stoE is ds e1) := by
  unfold sParK at h
  split at h
  · cases h
  · cases h; exact ⟨_, _, by assumption, rfl⟩
theorem sd_parK2 {i j : Nat} {x y : Str} {px py pt : Pos} {kt k2 pt2} {kds : List Kd} {m : M (List PyData)} (hc : X.calm = true) (hN : X.N.Nodup) (hi : X.N[i]? = some x) (hj : X.N[j]? = some y) (hij : i ≠ j)
    (hx : X.env.scope.names.lookup x = some .local) (hy : X.env.scope.names.lookup y = some .local) (hk : kdsAt ks ps [i, j] kds) (ha : AfD X ks ps kds [a, b] m)
    (hw : swappedStores [.Tuple [.Name x px, .Name y py] kt pt] (.Tuple [a, b] k2 pt2) X.env = pure (some [x, y]))
    (hs : swapsWithSole [.Tuple [.Name x px, .Name y py] kt pt] (.Tuple [a, b] k2 pt2) pos.line X.env = pure false := by rfl) :
    SD X ks ps rk (.Assign [.Tuple [.Name x px, .Name y py] kt pt] (.Tuple [a, b] k2 pt2) pos) (sParK [i, j] m) := PS.imp (ps_par hc hN hi hj hij hx hy ha hw hs) fun D σ H q => by
  obtain ⟨G, F, env, out, I, hm, q⟩ := q
  obtain ⟨ds, e1, h1, rfl⟩ := sParK_some hm
  refine ⟨G, F, env, ds, e1, I, h1, fun vs F1 H1 Frs S1 I1 o1 n1 hF => ?_⟩
  obtain ⟨J, S⟩ := I1.setKsS S1 hk n1 hF o1
  have l := o1.len.1
  have lk : kds.length = 2 := by
    match kds, hk with
    | [_, _], _ => rfl
    | [], hk => exact hk.elim
    | [_], hk => exact hk.2.2.elim
    | _ :: _ :: _ :: _, hk => exact hk.2.2.2.2.elim
  match vs, l.trans lk with
  | [v, w], _ => exact ⟨v, w, rfl, q _ _ H1 S J⟩
theorem sd_parK3 {i j l : Nat} {x y z : Str} {px py pz pt : Pos} {kt k2 pt2} {kds : List Kd} {m : M (List PyData)} (hc : X.calm = true) (hN : X.N.Nodup) (hi : X.N[i]? = some x) (hj : X.N[j]? = some y) (hl : X.N[l]? = some z) (hij : i ≠ j) (hil : i ≠ l) (hjl : j ≠ l)
    (hx : X.env.scope.names.lookup x = some .local) (hy : X.env.scope.names.lookup y = some .local) (hz : X.env.scope.names.lookup z = some .local) (hk : kdsAt ks ps [i, j, l] kds) (ha : AfD X ks ps kds [a, b, c] m)
    (hw : swappedStores [.Tuple [.Name x px, .Name y py, .Name z pz] kt pt] (.Tuple [a, b, c] k2 pt2) X.env = pure (some [x, y, z]))
    (hs : swapsWithSole [.Tuple [.Name x px, .Name y py, .Name z pz] kt pt] (.Tuple [a, b, c] k2 pt2) pos.line X.env = pure false := by rfl) :
    SD X ks ps rk (.Assign [.Tuple [.Name x px, .Name y py, .Name z pz] kt pt] (.Tuple [a, b, c] k2 pt2) pos) (sParK [i, j, l] m) := PS.imp (ps_par3 hc hN hi hj hl hij hil hjl hx hy hz ha hw hs) fun D σ H q => by
  obtain ⟨G, F, env, out, I, hm, q⟩ := q
  obtain ⟨ds, e1, h1, rfl⟩ := sParK_some hm
  refine ⟨G, F, env, ds, e1, I, h1, fun vs F1 H1 Frs S1 I1 o1 n1 hF => ?_⟩
  obtain ⟨J, S⟩ := I1.setKsS S1 hk n1 hF o1
  have l1 := o1.len.1
  have lk : kds.length = 3 := by
    match kds, hk with
    | [_, _, _], _ => rfl
    | [], hk => exact hk.elim
    | [_], hk => exact hk.2.2.elim
    | [_, _], hk => exact hk.2.2.2.2.elim
    | _ :: _ :: _ :: _ :: _, hk => exact hk.2.2.2.2.2.2.elim
  match vs, l1.trans lk with
  | [u, v, w], _ => exact ⟨u, v, w, rfl, q _ _ H1 S J⟩
/-- names as targets -/
def tNm (is : List Nat) : TGs := fun vs σ H Q => vs.length = is.length ∧ Q (stoS is vs σ) H
abbrev NmD (X : Cx) (ts : List Expr) (is : List Nat) : Prop := PGs X ts (tNm is)
theorem nm_nil : NmD X [] [] := PGs.imp pgs_nil fun vs σ H Q q => by
  obtain ⟨hl, q⟩ := q
  have : vs = [] := List.length_eq_zero_iff.mp hl
  subst this
  exact ⟨rfl, q⟩
theorem nm_cons {i : Nat} {is : List Nat} {x : Str} (hN : X.N.Nodup) (hi : X.N[i]? = some x) (hx : Loc X.env.scope x) (h : NmD X es is) (hf : X.fn x = true ∨ X.env.scope.names.lookup x = some .local := by first | exact .inl rfl | exact .inr rfl | assumption)
    (hs : (assignEach (.Name x pos :: es) X.env).map (·.2) = assign (.Name x pos) X.env :: (assignEach es X.env).map (·.2) := by rfl) : NmD X (.Name x pos :: es) (i :: is) := PGs.imp (pgs_cons (pg_name hN hi hx hf) h hs) fun vs σ H Q q => by
  obtain ⟨hl, q⟩ := q
  match vs, hl with
  | v :: vs, hl => exact ⟨v, vs, rfl, by simpa using hl, q⟩
theorem sd_parKn {n : Nat} {is : List Nat} {ts : List Expr} {kt k2 pt2} {pt : Pos} {kds : List Kd} {m : M (List PyData)} (hc : X.calm = true) (hn : NmD X ts is) (hk : kdsAt ks ps is kds) (hl : kds.length = is.length) (ha : AfD X ks ps kds es m) (hw : swappedStores [.Tuple ts kt pt] (.Tuple es k2 pt2) X.env = pure none := by rfl)
    (hs : swapsWithSole [.Tuple ts kt pt] (.Tuple es k2 pt2) pos.line X.env = pure false := by rfl) (h1 : (assignEach [.Tuple ts kt pt] X.env).map (·.2) = [assign (.Tuple ts kt pt) X.env] := by rfl) (hts : (assignEach ts X.env).length = is.length := by rfl) (hst : (assignEach ts X.env).findIdx? (·.1) = none := by rfl) (hz : is.length ≤ sizeLine := by decide) :
    SD X ks ps rk (.Assign [.Tuple ts kt pt] (.Tuple es k2 pt2) pos) (sParK is m) := PS.imp (ps_asg (pe_tup ha) (pg_tup hc hn hts hst) hs hw h1) fun D σ H q => by
  obtain ⟨G, F, env, out, I, hm, q⟩ := q
  obtain ⟨ds, e1, h1, rfl⟩ := sParK_some hm
  refine ⟨G, F, env, ds, e1, I, h1, fun vs F1 H1 Frs S1 I1 o1 n1 hF => ?_⟩
  have lv : vs.length = is.length := o1.len.1.trans hl
  refine ⟨by rw [lv]; exact hz, fun p hp => ?_⟩
  have s := same_upd (o := .tup vs) hp
  have I2 := I1.same s
  have o2 : OwnL X.K (upd H1 p (.tup vs)) (OO (fun a => G a ∨ a ∈ Frs.flatten) F1) kds Frs ds vs := o1.kp (Same.kp s) fun a _ ob e => s a ob e
  obtain ⟨J, S⟩ := I2.setKsS (S1.trans (.same s)) hk n1 hF o2
  exact ⟨p, vs, rfl, .inl (.inl upd_same), lv, lv, q _ _ _ S J⟩
end
end DL

/-! DLK: chains; lists put one behind another; sorted; more. -/
namespace DL
open PySem PySem.Spec PyProof.Rows L2
def kdsB (ks : List Kd) (own : List Nat) : List Nat → List Kd → Bool
  | [], [] => true
  | i :: is, kd :: kds => decide (ks[i]? = some kd) && (!own.contains i && kdsB ks own is kds)
  | _, _ => false
theorem kds_of {ks : List Kd} {own : List Nat} {vs : List V} : ∀ {is : List Nat} {kds : List Kd}, kdsB ks own is kds = true → kdsAt ks (pinsOf own vs) is kds
  | [], [], _ => trivial
  | [], _ :: _, h => nomatch h
  | _ :: _, [], h => nomatch h
  | i :: is, kd :: kds, h => by
    unfold kdsB at h
    rw [Bool.and_eq_true, Bool.and_eq_true, decide_eq_true_eq, Bool.not_eq_true'] at h
    exact ⟨h.1, psOk_pins h.2.1, kds_of h.2.2⟩
section
variable {rk : Kd} {X : Cx} {ks : List Kd} {ps : List (Nat × V)} {a b c e o : Expr} {es : List Expr} {pos pos' : Pos}
/-! ### a op b op c -/
def mChain (f g : PyData → PyData → Option PyData) (ma mb mc : M Opd) : M PyData := bnd ma fun x => bnd mb fun y => bnd (rs2 f x y) fun r => bnd (lft (bOf r)) fun k => if k then bnd mc fun z => rs2 g y z else ret (.bool false)
theorem chain_read {op op' : CmpOp} {f g : PyData → PyData → Option PyData} {ma mb mc : M Opd} {σ : L2.St} {H : Hp} {Q : VK} {r r' : R2}
    (hr : ∀ x y H Q, (∃ O dx dy d, (∀ p, H p = none → ¬ O p) ∧ Rep X.K H O dx x ∧ Rep X.K H O dy y ∧ f dx dy = some d ∧ ∀ v H', Same H H' → Rep X.K H' O d v → Q v H') → r x y H Q)
    (hr' : ∀ x y H Q, (∃ O dx dy d, (∀ p, H p = none → ¬ O p) ∧ Rep X.K H O dx x ∧ Rep X.K H O dy y ∧ g dx dy = some d ∧ ∀ v H', Same H H' → Rep X.K H' O d v → Q v H') → r' x y H Q)
    (q : tD X.K ks ps (mChain f g ma mb mc) σ H Q) : tChain r r' (tR X.K ks ps ma) (tR X.K ks ps mb) (tR X.K ks ps mc) σ H Q := by
  obtain ⟨G, F, env, d, env', I, hm, q⟩ := q
  obtain ⟨ox, e1, h1, ha⟩ := bnd_some hm
  obtain ⟨oy, e2, h3, hb⟩ := bnd_some ha
  obtain ⟨rr, e3, h5, hc⟩ := bnd_some hb
  obtain ⟨k, e4, h6, h7⟩ := bnd_some hc
  obtain ⟨h6, rfl⟩ := lft_some h6
  obtain ⟨rfl, dx, dy, g1, g2, g3, gi⟩ := rs2_some h5
  have er : rr = .bool k := by
    cases rr with
    | bool k' => cases h6; rfl
    | _ => cases h6
  subst er
  refine ⟨G, F, env, ox, e1, I, h1, fun v F1 H1 S1 I1 r1 => ⟨G, F1, e1, oy, _, I1, h3, fun u F2 H2 S2 I2 r2 => hr v u H2 _ ?_⟩⟩
  have r1' := HoldsO.rep I2 (r1.stp S2) g1
  have r2' := HoldsO.rep I2 r2 g2
  refine ⟨if (ox.own || oy.own) then fun _ => False else OO G F2, dx, dy, _, fresh_if I2, Rep.kp (less_if (by intro z; simp [z])) r1', Rep.kp (less_if (by intro z; simp [z])) r2', g3, fun w H3 s3 r3 => ?_⟩
  simp only [Rep] at r3
  refine ⟨k, r3, ?_⟩
  have I3 := I2.same s3
  have S3 := (S1.trans S2).trans (.same s3)
  cases k with
  | false =>
    rw [if_neg Bool.false_ne_true]
    rw [if_neg Bool.false_ne_true] at h7
    cases h7
    exact q _ F2 H3 S3 I3 rep_bl
  | true =>
    rw [if_pos rfl]
    rw [if_pos rfl] at h7
    obtain ⟨oz, e5, h8, h9⟩ := bnd_some h7
    obtain ⟨rfl, dy', dz, k1, k2, k3, ki⟩ := rs2_some h9
    refine ⟨G, F2, _, oz, _, I3, h8, fun t F4 H4 S4 I4 r4 => hr' u t H4 Q ?_⟩
    have q1 := HoldsO.rep I4 ((r2.stp (.same s3)).stp S4) k1
    have q2 := HoldsO.rep I4 r4 k2
    refine ⟨if (oy.own || oz.own) then fun _ => False else OO G F4, dy', dz, d, fresh_if I4, Rep.kp (less_if (by intro z; simp [z])) q1, Rep.kp (less_if (by intro z; simp [z])) q2, k3, fun w' H5 s5 r5 => ?_⟩
    exact q w' F4 H5 ((S3.trans S4).trans (.same s5)) (I4.same s5) (ifown ki r5)
theorem ed_chain {op op' : CmpOp} {f g : PyData → PyData → Option PyData} {ma mb mc : M Opd} (ho : Op2 X (compareOp op) f) (ho' : Op2 X (compareOp op') g) (ha : RD X ks ps a ma) (hb : RD X ks ps b mb) (hc : RD X ks ps c mc)
    (hm : lastMarks [op, op'] [b, c] = false := by with_unfolding_all rfl) : ED X ks ps (.Compare a [op, op'] [b, c] pos) (mChain f g ma mb mc) :=
  PE.imp (pe_chain ho ho' ha hb hc hm) fun σ H Q q => chain_read (op := op) (op' := op') (fun x y H Q z => z) (fun x y H Q z => z) q
theorem td_chain {op op' : CmpOp} {f g : PyData → PyData → Option PyData} {ma mb mc : M Opd} (ho : Op2 X (compareOp op) f) (ho' : Op2 X (compareOp op') g) (ha : RD X ks ps a ma) (hb : RD X ks ps b mb) (hc : RD X ks ps c mc)
    (hm : lastMarks [op, op'] [b, c] = false := by with_unfolding_all rfl) : TD X ks ps (.Compare a [op, op'] [b, c] pos) (mTest (mChain f g ma mb mc)) :=
  PT.imp (pt_chain ho ho' ha hb hc hm) fun σ H Q q => by
    obtain ⟨G, F, env, d, env', I, hm, q⟩ := q
    obtain ⟨x, e1, h1, h2⟩ := bnd_some hm
    obtain ⟨h2, rfl⟩ := lft_some h2
    refine chain_read (op := op) (op' := op') (fun x y H Q z => z) (fun x y H Q z => z) ⟨G, F, env, x, env', I, h1, fun v F' H' S J r => ?_⟩
    cases x with
    | bool k =>
      cases h2
      simp only [Rep] at r
      exact ⟨_, r, q F' H' S J⟩
    | _ => cases h2
end
end DL

/-! DLL: enumerate and zip over lists and tuples. -/
namespace DL
open PySem PySem.Spec PyProof.Rows L2

/-! ### a list or a tuple -/
def SqB (b : Bool) (K : PySem.W.Frag) (H : Hp) (a : Addr) (xs : List V) : Prop := if b = true then SqL K H a xs else SqT K H a xs
def ItB (b : Bool) (h : Heap) (it a : Addr) (i : Nat) : Prop := if b = true then h.IsListIter it a i else h.IsTupleIter it a i
def SeqIs (b : Bool) (h : Heap) (a : Addr) (items : Array Value) : Prop := if b = true then h.IsList a items else h.IsTuple a items
section
variable {X : Cx} {pins : List (Addr × Obj)} {σ : L2.St} {H : Hp} {s : Shared} {a : Addr} {xs ys : List V}
theorem sqB_of {b : Bool} (I : Inv X pins σ H s) (q : SqB b X.K H a xs) : ∃ its : List Value, Vals xs its ∧ SeqIs b s.heap a its.toArray ∧ xs.length ≤ sizeLine := by
  cases b with
  | true =>
    obtain ⟨its, r, p, z⟩ := I.list q
    exact ⟨its, r, p.isList, z⟩
  | false =>
    obtain ⟨its, r, p, z⟩ := I.tuple q
    exact ⟨its, r, p, z⟩
theorem sqB_inj {b : Bool} (I : Inv X pins σ H s) (q : SqB b X.K H a xs) (q' : SqB b X.K H a ys) : xs = ys := by
  cases b with
  | true => exact I.list_inj q q'
  | false => exact I.tuple_inj q q'
end
theorem ItB.at {b : Bool} {h h' : Heap} {it a : Addr} {i : Nat} (q : ItB b h it a i) (k : ∀ o, h.get? it = some o → h'.get? it = some o) : ItB b h' it a i := by
  cases b with
  | true => exact Heap.IsListIter.at q fun o e => k o e
  | false => exact Heap.IsTupleIter.at q fun o e => k o e
theorem ItB.obj {b : Bool} {h : Heap} {it a : Addr} {i : Nat} (q : ItB b h it a i) : ∃ o, h.get? it = some o ∧ ∀ v, o.data ≠ .cell v := by
  cases b with
  | true =>
    obtain ⟨o, e, _, d⟩ := q
    exact ⟨o, e, fun v z => by rw [d] at z; cases z⟩
  | false =>
    obtain ⟨o, e, _, d⟩ := q
    exact ⟨o, e, fun v z => by rw [d] at z; cases z⟩
theorem drawsB {P : Program} {w : World} {A : Around} (hh : A.handled = none) (b : Bool) (it a : Addr) (hne : a ≠ it) (items : Array Value) :
    Draws P w A it [it, a] items.size (fun i v => items[i]? = some v) (fun i h => ItB b h it a i ∧ SeqIs b h a items) := by
  cases b with
  | true => exact Draws.list hh it a hne items
  | false => exact Draws.tuple hh it a hne items
/-- the iterator's new object -/
def itObj (b : Bool) (a : Addr) : Obj := if b = true then { cls := .type "list_iterator", data := .fields #[.ref a, .int 0 0] } else { cls := .type "tuple_iterator", data := .fields #[.ref a, .int 0 0] }
theorem beginsB (b : Bool) (a : Addr) (items : Array Value) : Begins (.ref a) (itObj b a) fun h => SeqIs b h a items := by
  cases b with
  | true => exact begins_list a items
  | false => exact begins_tuple a items
theorem itObj_it {b : Bool} {h : Heap} {it a : Addr} (e : h.get? it = some (itObj b a)) : ItB b h it a 0 := by
  cases b with
  | true => exact ⟨_, e, rfl, rfl⟩
  | false => exact ⟨_, e, rfl, rfl⟩
theorem SeqIs.lt {b : Bool} {h : Heap} {a : Addr} {items : Array Value} (q : SeqIs b h a items) : a < h.objs.size := by
  cases b with
  | true => obtain ⟨o, e, _⟩ := q; exact Heap.lt_size e
  | false => obtain ⟨o, e, _⟩ := q; exact Heap.lt_size e

/-! ### enumerate -/
def IteB (b : Bool) (K : PySem.W.Frag) (a : Addr) : It :=
  ⟨fun i H => ∃ (xs : List V) (x : V), SqB b K H a xs ∧ xs[i]? = some x, fun i H v H' => ∃ T x, v = .ref T ∧ H T = none ∧ H' = upd H T (.tup [.int (i : Nat), x]) ∧ ∀ xs, SqB b K H a xs → xs[i]? = some x, fun i H => ∃ xs : List V, SqB b K H a xs ∧ xs.length = i⟩
theorem turn_enumB {P : Program} {w : World} {K : PySem.W.Frag} {elts : List Expr} {kk : Nat} {tpos : Pos} (b : Bool) (a e it : Addr) :
    Turn P w K (.Tuple elts kk tpos) (IteB b K a) [e, it] e (fun i h => (∃ old, IsEnum h e it ((i : Nat) : Int) old) ∧ ItB b h it a i ∧ e ≠ it ∧ e ≠ a ∧ a ≠ it) where
  mem := List.mem_cons_self
  obj := by
    rintro i h ⟨⟨old, he⟩, hi, _⟩ c hc
    rcases List.mem_cons.mp hc with rfl | hc
    · exact ⟨_, he, fun v q => nomatch q⟩
    · rw [List.mem_singleton.mp hc]; exact hi.obj
  keep := by
    rintro i h h' ⟨⟨old, he⟩, hi, ne⟩ k
    exact ⟨⟨old, k e List.mem_cons_self _ he⟩, hi.at fun o q => k it (List.mem_cons_of_mem _ List.mem_cons_self) o q, ne⟩
  item := by
    intro X hP hw hK hc i pins s σ H E I hf st hg
    subst hP hw hK
    obtain ⟨⟨old, he⟩, hit, hne, hea, hai⟩ := st
    obtain ⟨xs, x, hq, hx⟩ := hg
    obtain ⟨its, rv, p, hz⟩ := sqB_of I hq
    have hi : i < its.toArray.size := by
      have := (List.getElem?_eq_some_iff.mp hx).1
      rw [List.size_toArray, ← rv.length]
      exact this
    have ltE : e < s.heap.objs.size := Heap.lt_size he
    have ltI : it < s.heap.objs.size := by obtain ⟨o, q, _⟩ := hit.obj; exact Heap.lt_size q
    refine wpAny_pyNext_enum_itemD (drawsB (A := X.A.in1) (I.ok.hd hc) b it a hai its.toArray) he ⟨hit, p⟩ hi hne (by simp [hne, hea]) fun u h' tk hu ho st' hT hsz hk => ?_
    refine ⟨_, rfl, wpAny_letOwnedTupleGo_enum (s := { s with heap := h', toks := tk + 1 }) ho fun h'' he' sb => ?_⟩
    have ru : RelV x u := by
      obtain ⟨u', e1, e2⟩ := rv.get hx
      have e3 : its[i]? = some u := by simpa using hu
      rw [e3] at e1
      cases e1
      exact e2
    have tup : h''.get? s.heap.objs.size = some { cls := .type "tuple", data := .seq #[.int i tk, u] } := (sb.2 _ (Nat.ne_of_gt ltE)).trans hT
    have ok : ObjOk X.prog X.w (upd H s.heap.objs.size (.tup [.int (i : Nat), x])) h'' s.heap.objs.size (.tup [.int (i : Nat), x]) := by
      refine ⟨?_, [.int i tk, u], .cons ⟨_, rfl⟩ (.cons ru .nil), ⟨_, tup, rfl, _, rfl⟩⟩
      show 2 ≤ sizeLine
      decide
    have J : Inv X pins σ (upd H s.heap.objs.size (.tup [.int (i : Nat), x])) { s with heap := h'', toks := tk + 1 } := by
      refine I.turnedNew (t' := tk + 1) (ch := [e, it]) (fun c o hn q => ?_) hf (Nat.le_refl _) ok
      have n1 : c ≠ e := fun z => hn (by rw [z]; exact List.mem_cons_self)
      have n2 : c ≠ it := fun z => hn (by rw [z]; exact List.mem_cons_of_mem _ List.mem_cons_self)
      exact (sb.2 c n1).trans (hk c o n1 n2 q)
    refine ⟨.ref s.heap.objs.size, _, J, rfl, ⟨_, x, rfl, I.hok.fresh (Nat.le_refl _), rfl, fun l hl => by rw [sqB_inj I hl hq]; exact hx⟩, ⟨⟨u, ?_⟩, st'.1.at fun o q => (sb.2 it (Ne.symm hne)).trans q, hne, hea, hai⟩, fun c hcm => ?_⟩
    · rw [show ((i + 1 : Nat) : Int) = (i : Int) + 1 by omega]
      exact he'
    · have ltC : c < s.heap.objs.size := by
        rcases List.mem_cons.mp hcm with z | z
        · rw [z]; exact ltE
        · rw [List.mem_singleton.mp z]; exact ltI
      rw [upd_ne (Nat.ne_of_lt ltC)]
      exact (hf c hcm).1
  done := by
    intro X hP hw hK hc i pins s σ H E I hf st hg
    subst hP hw hK
    obtain ⟨⟨old, he⟩, hit, hne, hea, hai⟩ := st
    obtain ⟨xs, hq, hx⟩ := hg
    obtain ⟨its, rv, p, hz⟩ := sqB_of I hq
    have hi : its.toArray.size = i := by rw [List.size_toArray, ← rv.length]; exact hx
    subst hi
    obtain ⟨f0, f1, f2, f3, f4, f5⟩ := hf it (List.mem_cons_of_mem _ List.mem_cons_self)
    exact wpAny_pyNext_enum_endD (drawsB (A := X.A.in1) (I.ok.hd hc) b it a hai its.toArray) he ⟨hit, p⟩ fun h' eb => ⟨rfl, I.turned (t' := s.toks) (fun c o hn q => eb c o hn q) f0 f1 f3 f4 f5⟩
  self := fun A i s Q E st q => wpAny_pyIter_enum st.1.choose_spec q

set_option maxHeartbeats 2000000 in
theorem meets_enum1 {v : Value} {o : Obj} {H : Heap → Prop} (B : Begins v o H) :
    Meets (Builtin.«enumerate.__new__» ⟨[.type "enumerate", v], []⟩) (fun _ R s => H s.heap ∧
      R (.ok (.ret (.ref (s.heap.push o).objs.size))) { s with heap := (s.heap.push o).push { cls := .type "enumerate", data := .fields #[.none, .bool false, .ref s.heap.objs.size, rawInt 0, .none, .none] } }) :=
  .of_wp fun prog w A R s hyp => by
    obtain ⟨hp, g, dr, tk, os⟩ := s
    obtain ⟨hH, hyp⟩ := hyp
    have subE := sub_enumerate
    have itr : ∀ {A' : Around} {E : Value → Shared → Prop} {Q : Value → Shared → Prop}, Q (.ref hp.objs.size) ⟨hp.push o, g, dr, tk, os⟩ → wpAny (model prog w) A' (pyIter v) Q E ⟨hp, g, dr, tk, os⟩ :=
      fun q => B.iter prog w _ _ ⟨hp, g, dr, tk, os⟩ _ hH q
    wp_walk using itr
    refine wpAny_stack_any fun st => wpAny_pure ?_
    split
    · rename_i c _ _ _ _ _
      cases (c == Value.type "enumerate")
      · wp_walk using itr
        exact ⟨_, rfl, hyp⟩
      · wp_walk using itr
        exact ⟨_, rfl, hyp⟩
    · wp_walk using itr
      exact ⟨_, rfl, hyp⟩

theorem enumBegins {P : Program} {w : World} {A : Around} {E : Value → Shared → Prop} {s : Shared} {v : Value} {o : Obj} {H : Heap → Prop} {Q : Value → Shared → Prop} (B : Begins v o H) (hH : H s.heap)
    (hyp : ∀ h', IsEnum h' (s.heap.objs.size + 1) s.heap.objs.size 0 .none → h'.get? s.heap.objs.size = some o → (∀ b u, s.heap.get? b = some u → h'.get? b = some u) → Q (.ref (s.heap.objs.size + 1)) { s with heap := h' }) :
    wpAny (model P w) A (call (.type "enumerate") [v]) Q E s := by
  refine callType_new F.called_enumerate (by decide) (F.typeCall_enumerate_1 _) (F.newCall_enumerate_1 _) (fun obj => F.args_object_init_2 obj _) F.entry_enumerate_new (meets_enum1 B) ⟨hH, ?_⟩
  have sz1 : (s.heap.push o).objs.size = s.heap.objs.size + 1 := Heap.size_push ..
  show _ ∧ _
  rw [sz1]
  have isE : IsEnum ((s.heap.push o).push { cls := .type "enumerate", data := .fields #[.none, .bool false, .ref s.heap.objs.size, rawInt 0, .none, .none] }) (s.heap.objs.size + 1) s.heap.objs.size 0 .none := by
    have q := Heap.get?_push_size (s.heap.push o) (o := { cls := .type "enumerate", data := .fields #[.none, .bool false, .ref s.heap.objs.size, rawInt 0, .none, .none] }) rfl
    rw [sz1] at q
    exact q
  exact ⟨⟨_, isE, rfl⟩, hyp _ isE (Heap.get?_push_of_some _ (Heap.get?_push_size _ B.free)) fun b u q => Heap.get?_push_of_some _ (Heap.get?_push_of_some _ q)⟩
section
variable {rk : Kd} {X : Cx} {ks : List Kd} {ps : List (Nat × V)} {a b c e o : Expr} {es : List Expr} {pos pos' : Pos}
def iEnumB (K : PySem.W.Frag) (ta : TA) : TI := fun σ H R => ta σ H fun vs H1 => ∃ b a xs, vs = [.ref a] ∧ SqB b K H1 a xs ∧ R (IteB b K a) H1
theorem pi_enumB {ta : TA} {p tpos : Pos} {elts : List Expr} {kk : Nat} (hg : Gl X "enumerate") (hm : X.mg "enumerate" = none) (ha : PA X [e] ta) (hs : starEach [e] X.env = [(false, eval e X.env)] := by rfl) :
    PI X (.Tuple elts kk tpos) (.Call (.Name "enumerate" p) [e] [] pos) (iEnumB X.K ta) := by
  constructor
  intro pins s σ H R I hyp
  refine Call_ (ld_blt I hg hm boot_enumerate (PyProof.Rows.callWith_type1 (thn (ha.run pos pins s σ H _ I hyp) ?_) hs rfl))
  rintro us s1 ⟨vs, H1, I1, r1, bb, ad, xs, rfl, hq, q⟩
  obtain ⟨u, rfl, r2⟩ := vals1 r1
  cases r2
  obtain ⟨its, rv, pp, hz⟩ := sqB_of I1 hq
  refine enumBegins (beginsB bb ad its.toArray) pp fun h' he hit hk => wpAny_pyIter_enum he ?_
  have lt := pp.lt
  refine ⟨s1.heap.objs.size + 1, [s1.heap.objs.size + 1, s1.heap.objs.size], _, _, H1, rfl, I1.kept (t' := s1.toks) hk, turn_enumB bb ad (s1.heap.objs.size + 1) s1.heap.objs.size, ⟨⟨.none, he⟩, itObj_it hit, Nat.succ_ne_self _, Nat.ne_of_gt (Nat.lt_succ_of_lt lt), Nat.ne_of_lt lt⟩, fun c hc => ?_, q⟩
  have le : s1.heap.objs.size ≤ c := by
    rcases List.mem_cons.mp hc with z | z
    · rw [z]; exact Nat.le_succ _
    · rw [List.mem_singleton.mp z]; exact Nat.le_refl _
  exact I1.fpOk le (I1.hok.fresh le)
/-- the pairs of enumerate -/
def enumL (ds : List PyData) : List PyData := ds.zipIdx.map fun p => .tuple [.int (p.2 : Int), p.1]
theorem enumL_get {ds : List PyData} {i : Nat} {d : PyData} (h : (enumL ds)[i]? = some d) : ∃ y, ds[i]? = some y ∧ d = .tuple [.int (i : Int), y] := by
  unfold enumL at h
  rw [List.getElem?_map, List.getElem?_zipIdx] at h
  cases q : ds[i]? with
  | none => rw [q] at h; cases h
  | some y =>
    rw [q] at h
    simp at h
    exact ⟨y, rfl, h.symm⟩
def mEnum (m : M PyData) : M (List PyData) := bnd m fun d => lft ((itsOf d).map enumL)
theorem rep_pair {K : PySem.W.Frag} {H : Hp} {O : Addr → Prop} {d1 d2 : PyData} {x y : V} {T : Addr} (h1 : Rep K H O d1 x) (h2 : Rep K H O d2 y) (hT : H T = none) : Rep K (upd H T (.tup [x, y])) O (.tuple [d1, d2]) (.ref T) := by
  have sm := same_upd (o := .tup [x, y]) hT
  simp only [Rep]
  exact ⟨T, [x, y], rfl, .inl upd_same, .cons (Rep.kp (Same.kp sm) h1) (.cons (Rep.kp (Same.kp sm) h2) .nil)⟩
theorem id_enum {p tpos : Pos} {elts : List Expr} {kk : Nat} {m : M PyData} (hg : Gl X "enumerate") (hm : X.mg "enumerate" = none) (h : ED X ks ps e m) (hs : starEach [e] X.env = [(false, eval e X.env)] := by rfl) :
    ID X ks ps (.Tuple elts kk tpos) (.Call (.Name "enumerate" p) [e] [] pos) (mEnum m) :=
  PI.imp (pi_enumB hg hm (pa_cons h pa_nil hs) hs) fun σ H R q => by
    obtain ⟨G, F, env, ds, env', I, hm', q⟩ := q
    obtain ⟨d, e1, h1, h2⟩ := bnd_some hm'
    obtain ⟨h2b, eq⟩ := lft_some h2
    subst eq
    obtain ⟨ds0, h3, eq2⟩ := Option.map_eq_some_iff.mp h2b
    subst eq2
    refine ⟨G, F, env, d, _, I, h1, fun v F' H' S J r => ?_⟩
    have fin : ∀ {bb : Bool} {ad : Addr} {xs : List V}, SqB bb X.K H' ad xs → (∀ F2 H2, Stp F' H' F2 H2 → SqB bb X.K H2 ad xs) → RepA X.K H' (OO G F') ds0 xs → v = .ref ad → ∃ b a xs, [v] = [.ref a] ∧ SqB b X.K H' a xs ∧ R (IteB b X.K a) H' := by
      rintro bb ad xs hq hk ra rfl
      refine ⟨bb, ad, xs, rfl, hq, q (IteB bb X.K ad) F' H' (fun H2 => SqB bb X.K H2 ad xs) (fun i H2 w H3 => ∃ T x, w = .ref T ∧ H2 T = none ∧ H3 = upd H2 T (.tup [.int (i : Nat), x]) ∧ xs[i]? = some x) S J ?_ hk fun G2 i F2 H2 x H3 d hd hg2 S2 hG2 y => ?_⟩
      · have ll : (enumL ds0).length = xs.length := by rw [← ra.length]; simp [enumL]
        rw [ll]
        exact ⟨fun i H2 hi hq2 => ⟨xs, xs[i], hq2, List.getElem?_eq_getElem hi⟩, fun H2 hq2 => ⟨xs, hq2, rfl⟩, fun i H2 w H3 hi hq2 y => by
          obtain ⟨T, x, e1, e2, e3, e4⟩ := y
          exact ⟨T, x, e1, e2, e3, e4 xs hq2⟩⟩
      · obtain ⟨y', e1, rfl⟩ := enumL_get hd
        obtain ⟨T, x', rfl, hT, rfl, e4⟩ := y
        obtain ⟨z, g1, g2⟩ := ra.get e1
        rw [e4] at g1
        cases g1
        exact ⟨same_upd hT, rep_pair rep_int (Rep.kp (S2.kp2 fun a z => (hg2 a z).imp id .inr) g2) hT⟩
    unfold itsOf at h3
    split at h3
    · cases h3
      simp only [Rep] at r
      obtain ⟨ad, xs, rfl, t1, a1⟩ := r
      exact fin (bb := true) t1.sq (fun F2 H2 S2 => (t1.kp (S2.kp (G := G))).sq) a1 rfl
    · cases h3
      simp only [Rep] at r
      obtain ⟨ad, xs, rfl, t1, a1⟩ := r
      exact fin (bb := false) t1.sq (fun F2 H2 S2 => SqT.kp (S2.kp (G := G)) t1.sq) a1 rfl
    · cases h3
end
end DL

/-! DLM: zip of two, strict or not, over lists and tuples. -/
namespace DL
open PySem PySem.Spec PyProof.Rows L2
open Sem (wp)

/-- a zip object; st: strict -/
abbrev ZipO (st : Bool) (h : Heap) (zz kI kO : Addr) (f0 : Value) : Prop :=
  h.get? zz = some { cls := .type "zip", dict := none, data := .fields #[f0, .bool false, .bool st, .ref kI, .ref kO], slots := #[] }
section
variable {P : Program} {w : World} {A : Around} {E : Value → Shared → Prop} {s : Shared}
/-- next, or none at the end -/
theorem nextOrEnd_item {it : Addr} {fp : List Addr} {n i : Nat} {Pr : Nat → Value → Prop} {St : Nat → Heap → Prop} {Q : Option Value → Shared → Prop} (D : Draws P w A it fp n Pr St) (hi : i < n) (hs : St i s.heap)
    (q : ∀ x h' tk, Pr i x → St (i + 1) h' → Heap.SameBut it s.heap h' → Q (some x) { s with heap := h', toks := tk }) : wpAny (model P w) A (Builtin.SmallTypes.nextOrEnd (.ref it)) Q E s := by
  unfold Builtin.SmallTypes.nextOrEnd
  refine wpAny_bind (wpAny_attempt (D.item i s _ _ hi hs fun x h' tk h1 h2 h3 => ?_))
  exact wpAny_pure (q x h' tk h1 h2 h3)
theorem nextOrEnd_done {it : Addr} {fp : List Addr} {n : Nat} {Pr : Nat → Value → Prop} {St : Nat → Heap → Prop} {Q : Option Value → Shared → Prop} (D : Draws P w A it fp n Pr St) (hs : St n s.heap)
    (q : ∀ h', Heap.ExtBut it s.heap h' → Q none { s with heap := h' }) : wpAny (model P w) A (Builtin.SmallTypes.nextOrEnd (.ref it)) Q E s := by
  unfold Builtin.SmallTypes.nextOrEnd
  refine wpAny_bind (wpAny_attempt (D.done s _ _ hs fun h' e h1 h2 => ?_))
  obtain ⟨oe, h3, h4⟩ := h2
  exact wpAny_bind (wpAny_isInstance (T := "StopIteration") (b := true) ⟨oe, h3, h4⟩ isSubtype_stop (wpAny_pure (q h' h1)))

variable {zz kI kO j1 j2 : Addr} {fp1 fp2 : List Addr} {n1 n2 i : Nat} {P1 P2 : Nat → Value → Prop} {St1 St2 : Nat → Heap → Prop} {a1 a2 : Value}
theorem zipS_item {Q : Value → Shared → Prop} (S : ZipSep2 zz kI kO j1 j2 fp1 fp2) (D1 : Draws P w A j1 fp1 n1 P1 St1) (D2 : Draws P w A j2 fp2 n2 P2 St2)
    (isZ : ZipO true s.heap zz kI kO .none) (isI : IsTupOf2 s.heap kI (.ref j1) (.ref j2)) (isO : IsTupOf2 s.heap kO a1 a2) (st1 : St1 i s.heap) (st2 : St2 i s.heap) (lt1 : i < n1) (lt2 : i < n2)
    (q : ∀ x1 x2 h' tk, P1 i x1 → P2 i x2 → ZipO true h' zz kI kO (rawInt s.heap.objs.size) → IsTupOf2 h' kO x1 x2 → St1 (i + 1) h' → St2 (i + 1) h' → IsTupOf2 h' s.heap.objs.size x1 x2 → h'.objs.size = s.heap.objs.size + 1 →
      (∀ c u, c ≠ zz → c ≠ kO → c ≠ j1 → c ≠ j2 → s.heap.get? c = some u → h'.get? c = some u) → Q (.ref s.heap.objs.size) { s with heap := h', toks := tk }) :
    wpAny (model P w) A (Builtin.«zip.__next__» ⟨[.ref zz], []⟩) (fun fin s' => ∃ v, fin = .done (.ret v) ∧ Q v s') E s := by
  obtain ⟨hp, gn, dr, tk0, osx⟩ := s
  show wpAny _ _ (field (.ref zz) 2 >>= _) _ _ _
  refine wpAny_bind (wpAny_field isZ rfl (x := .bool true) rfl ?_)
  show wpAny _ _ (field (.ref zz) 3 >>= _) _ _ _
  refine wpAny_bind (wpAny_field isZ rfl (x := .ref kI) rfl ?_)
  refine wpAny_bind (wpAny_seqItems isI rfl ?_)
  show wpAny _ _ (Builtin.SmallTypes.ownedTupleIsFree (.ref zz) >>= _) _ _ _
  refine wpAny_bind ?_
  unfold Builtin.SmallTypes.ownedTupleIsFree
  refine wpAny_bind (wpAny_field isZ rfl (x := .none) rfl (wpAny_pure ?_))
  simp only [if_true]
  refine wpAny_bind (wpAny_rule ?_)
  refine wpAny_bind (wpAny_field isZ rfl (x := .ref kO) rfl ?_)
  refine wpAny_bind (wpAny_setField_rec isZ (by simp) fun g0 z0 m0 => ?_)
  replace z0 : ZipO true g0 zz kI kO .ellipsis := z0
  replace m0 : Heap.SameBut zz hp g0 := m0
  refine wpAny_bind ?_
  simp only [List.zipIdx_cons, List.forIn_cons, List.zipIdx_nil, List.forIn_nil]
  refine wpAny_bind (wpAny_bind (wpAny_onRaise ?_))
  show wpAny _ _ (Builtin.SmallTypes.nextOrEnd (.ref j1)) _ _ ⟨g0, gn, dr, tk0, osx⟩
  refine nextOrEnd_item D1 lt1 (D1.over st1 m0 S.zf1) fun x1 p1 tk1 hx1 sn1 m1 => ?_
  replace m1 : Heap.SameBut j1 g0 p1 := m1
  have o1 : IsTupOf2 p1 kO a1 a2 := m1.extBut _ _ S.Ti1 (m0.extBut _ _ S.TOz isO)
  refine wpAny_bind (wpAny_seqItems (s := ⟨p1, gn, dr, tk1, osx⟩) o1 rfl ?_)
  refine wpAny_bind (updateSeq_IsTupOf2 (s := ⟨p1, gn, dr, tk1, osx⟩) o1 fun g1 t1 e1 => ?_)
  replace t1 : IsTupOf2 g1 kO x1 a2 := t1
  replace e1 : Heap.SameBut kO p1 g1 := e1
  refine wpAny_bind (wpAny_letGo (wpAny_pure ?_))
  refine wpAny_bind (wpAny_bind (wpAny_onRaise ?_))
  show wpAny _ _ (Builtin.SmallTypes.nextOrEnd (.ref j2)) _ _ ⟨g1, gn, dr, tk1, osx⟩
  refine nextOrEnd_item D2 lt2 (D2.over (D2.over (D2.over st2 m0 S.zf2) m1 S.sep1_2) e1 S.Tf2) fun x2 p2 tk2 hx2 sn2 m2 => ?_
  replace m2 : Heap.SameBut j2 g1 p2 := m2
  have o2 : IsTupOf2 p2 kO x1 a2 := m2.extBut _ _ S.Ti2 t1
  refine wpAny_bind (wpAny_seqItems (s := ⟨p2, gn, dr, tk2, osx⟩) o2 rfl ?_)
  refine wpAny_bind (updateSeq_IsTupOf2 (s := ⟨p2, gn, dr, tk2, osx⟩) o2 fun g2 t2 e2 => ?_)
  replace t2 : IsTupOf2 g2 kO x1 x2 := t2
  replace e2 : Heap.SameBut kO p2 g2 := e2
  refine wpAny_bind (wpAny_letGo (wpAny_pure (wpAny_pure ?_)))
  refine wpAny_bind (wpAny_seqItems (s := ⟨g2, gn, dr, tk2, osx⟩) t2 rfl ?_)
  refine wpAny_bind (wpAny_newTuple ?_)
  have sz : g2.objs.size = hp.objs.size := by rw [e2.1, m2.1, e1.1, m1.1, m0.1]
  have z2 : ZipO true g2 zz kI kO .ellipsis := e2.extBut _ _ S.TOz.symm (m2.extBut _ _ S.zi2 (e1.extBut _ _ S.TOz.symm (m1.extBut _ _ S.zi1 z0)))
  have keep : ∀ c u, c ≠ zz → c ≠ kO → c ≠ j1 → c ≠ j2 → hp.get? c = some u → g2.get? c = some u := fun c u c0 c3 c1 c2 y =>
    e2.extBut _ _ c3 (m2.extBut _ _ c2 (e1.extBut _ _ c3 (m1.extBut _ _ c1 (m0.extBut _ _ c0 y))))
  have d1 : St1 (i + 1) g2 := D1.over (D1.over (D1.over sn1 e1 S.Tf1) m2 S.sep2_1) e2 S.Tf1
  have d2 : St2 (i + 1) g2 := D2.over sn2 e2 S.Tf2
  have zlt : zz < g2.objs.size := Heap.lt_size z2
  show wpAny _ _ (Builtin.SmallTypes.ownedTupleHandOut (.ref zz) (.ref g2.objs.size) >>= _) _ _ ⟨g2.push { cls := .type "tuple", data := .seq #[x1, x2] }, gn, dr, tk2, osx⟩
  refine wpAny_bind ?_
  unfold Builtin.SmallTypes.ownedTupleHandOut
  have z3 : ZipO true (g2.push { cls := .type "tuple", data := .seq #[x1, x2] }) zz kI kO .ellipsis := Heap.get?_push_of_some _ z2
  refine wpAny_bind (wpAny_setField_rec z3 (by simp) fun h7 z7 m7 => ?_)
  replace z7 : ZipO true h7 zz kI kO (rawInt g2.objs.size) := z7
  refine wpAny_setField_rec z7 (by simp) fun h8 z8 m8 => ?_
  replace z8 : ZipO true h8 zz kI kO (rawInt g2.objs.size) := z8
  replace m7 : Heap.SameBut zz (g2.push { cls := .type "tuple", data := .seq #[x1, x2] }) h7 := m7
  replace m8 : Heap.SameBut zz h7 h8 := m8
  have up : ∀ c u, c ≠ zz → g2.get? c = some u → h8.get? c = some u := fun c u c1 y => m8.extBut _ _ c1 (m7.extBut _ _ c1 (Heap.get?_push_of_some _ y))
  have t8 : IsTupOf2 h8 g2.objs.size x1 x2 := m8.extBut _ _ (Nat.ne_of_gt zlt) (m7.extBut _ _ (Nat.ne_of_gt zlt) (Heap.get?_push_size _ rfl))
  have s8 : h8.objs.size = g2.objs.size + 1 := by rw [m8.1, m7.1, Heap.size_push]
  rw [sz] at z8 t8 s8
  refine wpAny_pure ⟨_, rfl, ?_⟩
  show Q (.ref g2.objs.size) ⟨h8, gn, dr, tk2, osx⟩
  rw [sz]
  exact q x1 x2 h8 tk2 hx1 hx2 z8 (up _ _ S.TOz t2) (D1.frame _ _ _ d1 fun b hb u y => up b u (fun z => S.zf1 (z ▸ hb)) y) (D2.frame _ _ _ d2 fun b hb u y => up b u (fun z => S.zf2 (z ▸ hb)) y) t8 s8 fun c u c0 c3 c1 c2 y => up c u c0 (keep c u c0 c3 c1 c2 y)

theorem zipS_end {Q : Fin → Shared → Prop} (hh : A.handled = none) (S : ZipSep2 zz kI kO j1 j2 fp1 fp2) (D1 : Draws P w A j1 fp1 n1 P1 St1) (D2 : Draws P w A j2 fp2 n2 P2 St2)
    (isZ : ZipO true s.heap zz kI kO .none) (isI : IsTupOf2 s.heap kI (.ref j1) (.ref j2)) (isO : IsTupOf2 s.heap kO a1 a2) (st1 : St1 n1 s.heap) (st2 : St2 n2 s.heap)
    (q : ∀ h' tk e, (∀ c u, c ≠ zz → c ≠ kO → c ≠ j1 → c ≠ j2 → s.heap.get? c = some u → h'.get? c = some u) → (∃ u, h'.get? e = some u ∧ u.cls = .type "StopIteration") → E (.ref e) { s with heap := h', toks := tk }) :
    wpAny (model P w) A (Builtin.«zip.__next__» ⟨[.ref zz], []⟩) Q E s := by
  obtain ⟨hp, gn, dr, tk0, osx⟩ := s
  show wpAny _ _ (field (.ref zz) 2 >>= _) _ _ _
  refine wpAny_bind (wpAny_field isZ rfl (x := .bool true) rfl ?_)
  show wpAny _ _ (field (.ref zz) 3 >>= _) _ _ _
  refine wpAny_bind (wpAny_field isZ rfl (x := .ref kI) rfl ?_)
  refine wpAny_bind (wpAny_seqItems isI rfl ?_)
  show wpAny _ _ (Builtin.SmallTypes.ownedTupleIsFree (.ref zz) >>= _) _ _ _
  refine wpAny_bind ?_
  unfold Builtin.SmallTypes.ownedTupleIsFree
  refine wpAny_bind (wpAny_field isZ rfl (x := .none) rfl (wpAny_pure ?_))
  simp only [if_true]
  refine wpAny_bind (wpAny_rule ?_)
  refine wpAny_bind (wpAny_field isZ rfl (x := .ref kO) rfl ?_)
  refine wpAny_bind (wpAny_setField_rec isZ (by simp) fun g0 z0 m0 => ?_)
  replace z0 : ZipO true g0 zz kI kO .ellipsis := z0
  replace m0 : Heap.SameBut zz hp g0 := m0
  refine wpAny_bind ?_
  simp only [List.zipIdx_cons, List.forIn_cons, List.zipIdx_nil, List.forIn_nil]
  refine wpAny_bind (wpAny_bind (wpAny_onRaise ?_))
  show wpAny _ _ (Builtin.SmallTypes.nextOrEnd (.ref j1)) _ _ ⟨g0, gn, dr, tk0, osx⟩
  refine nextOrEnd_done D1 (D1.over st1 m0 S.zf1) fun p1 m1 => ?_
  replace m1 : Heap.ExtBut j1 g0 p1 := m1
  have z1 : ZipO true p1 zz kI kO .ellipsis := m1 _ _ S.zi1 z0
  refine wpAny_bind (wpAny_setField_rec (s := ⟨p1, gn, dr, tk0, osx⟩) z1 (by simp) fun p2 z2 m2 => ?_)
  replace m2 : Heap.SameBut zz p1 p2 := m2
  refine wpAny_bind ?_
  refine wpAny_bind ?_
  simp only [List.drop_succ_cons, List.drop_zero, List.zipIdx_cons, List.zipIdx_nil, List.forIn_cons, List.forIn_nil]
  refine wpAny_bind (wpAny_bind ?_)
  refine nextOrEnd_done D2 (D2.over (D2.frame _ _ _ (D2.over st2 m0 S.zf2) fun b hb u y => m1 b u (fun z => S.sep1_2 (z ▸ hb)) y) m2 S.zf2) fun p3 m3 => ?_
  replace m3 : Heap.ExtBut j2 p2 p3 := m3
  refine wpAny_pure (wpAny_pure ?_)
  refine wpAny_bind (wpAny_rule ?_)
  show wpAny _ _ (newExc (.type "StopIteration") [] >>= _) _ _ _
  refine wpAny_bind ?_
  simp only [newExc, newTuple]
  refine wpAny_bind (wpAny_newObj_type ?_ (by size_fits))
  refine wpAny_bind (m := firstArgMember _ _) (wpAny_of_eq (a := Value.none) (by first | rfl | (simp only [firstArgMember]; rfl)) ?_)
  refine wpAny_newObj_type ?_ (by size_fits)
  simp only [raiseNew]
  refine wpAny_bind (wpAny_handled ?_)
  rw [hh]
  refine wpAny_bind (wpAny_pure (wpAny_throw ?_))
  refine q _ _ _ (fun c u c0 c3 c1 c2 y => ?_) ⟨_, Heap.get?_push_size _ rfl, rfl⟩
  exact Heap.get?_push_of_some _ (Heap.get?_push_of_some _ (m3 _ _ c2 (m2.extBut _ _ c0 (m1 _ _ c1 (m0.extBut _ _ c0 y)))))

theorem go_zip {st : Bool} {elts : List Expr} {x1} {pos : Pos} {T : Addr} {Q : Unit → Shared → Prop} (isZ : ZipO st s.heap zz kI kO (rawInt T)) (q : ∀ h', ZipO st h' zz kI kO .none → Heap.SameBut zz s.heap h' → Q () { s with heap := h' }) :
    wpAny (model P w) A (letOwnedTupleGo (.Tuple elts x1 pos) (.ref zz) (.ref T)) Q E s := by
  unfold letOwnedTupleGo
  refine wpAny_bind (wpAny_load isZ ?_)
  show wpAny _ _ (if (["enumerate", "zip", "dict_itemiterator", "dict_reverseitemiterator", "odict_iterator", "itertools.zip_longest", "itertools.pairwise"].contains "zip" && (#[rawInt T, .bool false, .bool st, .ref kI, .ref kO] : Array Value)[0]? == some (rawInt T)) = true then _ else _) Q E s
  rw [if_pos (by simp)]
  refine wpAny_bind (wpAny_rule ?_)
  show wpAny _ _ (setField (.ref zz) 0 .none) Q E s
  exact wpAny_setField_rec isZ (by simp) q
theorem iter_zip {st : Bool} {f0 : Value} {Q : Value → Shared → Prop} (isZ : ZipO st s.heap zz kI kO f0) (q : Q (.ref zz) s) : wpAny (model P w) A (pyIter (.ref zz)) Q E s := by
  have ty : s.TypeIs (.ref zz) "zip" := ⟨_, isZ, rfl⟩
  refine wpAny_pyIter_slot ty F.slot_zip_iter (wpAny_call_entry F.slot_zip_iter ty F.entry_zip_iter ?_ (F.args_zip_iter_1 _))
  exact wpAny_pure ⟨_, rfl, "zip", _, ty, F.slot_zip_next.lookup, q⟩
theorem next_zip {st : Bool} {Q : Option Value → Shared → Prop} (S : ZipSep2 zz kI kO j1 j2 fp1 fp2) (D1 : Draws P w A.in1 j1 fp1 n1 P1 St1) (D2 : Draws P w A.in1 j2 fp2 n2 P2 St2)
    (isZ : ZipO st s.heap zz kI kO .none) (isI : IsTupOf2 s.heap kI (.ref j1) (.ref j2)) (isO : IsTupOf2 s.heap kO a1 a2) (st1 : St1 i s.heap) (st2 : St2 i s.heap) (lt1 : i < n1) (lt2 : i < n2)
    (q : ∀ x1 x2 h' tk, P1 i x1 → P2 i x2 → ZipO st h' zz kI kO (rawInt s.heap.objs.size) → IsTupOf2 h' kO x1 x2 → St1 (i + 1) h' → St2 (i + 1) h' → IsTupOf2 h' s.heap.objs.size x1 x2 → h'.objs.size = s.heap.objs.size + 1 →
      (∀ c u, c ≠ zz → c ≠ kO → c ≠ j1 → c ≠ j2 → s.heap.get? c = some u → h'.get? c = some u) → Q (some (.ref s.heap.objs.size)) { s with heap := h', toks := tk }) :
    wpAny (model P w) A (pyNext (.ref zz)) Q E s := by
  cases st with
  | false => exact wpAny_pyNext_zipD2_item S D1 D2 isZ isI isO st1 st2 lt1 lt2 q
  | true =>
    have ty : s.TypeIs (.ref zz) "zip" := ⟨_, isZ, rfl⟩
    unfold pyNext
    exact wpAny_bind (wpAny_attempt (wpAny_callSpecial?_slot (name := Str.ofString "__next__") ty F.slot_zip_next
      (wpAny_call_entry F.slot_zip_next ty F.entry_zip_next (zipS_item S D1 D2 isZ isI isO st1 st2 lt1 lt2 fun x1 x2 h' tk y1 y2 b1 b2 b3 b4 b5 b6 b7 => wpAny_pure (q x1 x2 h' tk y1 y2 b1 b2 b3 b4 b5 b6 b7)) (F.args_zip_next_1 _))))
theorem done_zip {st : Bool} {Q : Option Value → Shared → Prop} (hh : A.handled = none) (S : ZipSep2 zz kI kO j1 j2 fp1 fp2) (D1 : Draws P w A.in1 j1 fp1 i P1 St1) (D2 : Draws P w A.in1 j2 fp2 i P2 St2)
    (isZ : ZipO st s.heap zz kI kO .none) (isI : IsTupOf2 s.heap kI (.ref j1) (.ref j2)) (isO : IsTupOf2 s.heap kO a1 a2) (st1 : St1 i s.heap) (st2 : St2 i s.heap)
    (q : ∀ h' tk, (∀ c u, c ≠ zz → c ≠ kO → c ≠ j1 → c ≠ j2 → s.heap.get? c = some u → h'.get? c = some u) → Q none { s with heap := h', toks := tk }) : wpAny (model P w) A (pyNext (.ref zz)) Q E s := by
  cases st with
  | false => exact wpAny_pyNext_zipD2_end S D1 D2 isZ isI isO st1 st2 (Nat.le_refl _) (Nat.le_refl _) (.inl rfl) q
  | true =>
    have ty : s.TypeIs (.ref zz) "zip" := ⟨_, isZ, rfl⟩
    unfold pyNext
    refine wpAny_bind (wpAny_attempt (wpAny_callSpecial?_slot (name := Str.ofString "__next__") ty F.slot_zip_next
      (wpAny_call_entry F.slot_zip_next ty F.entry_zip_next (zipS_end (A := A.in1) hh S D1 D2 isZ isI isO st1 st2 fun h' tk e hk he => ?_) (F.args_zip_next_1 _))))
    obtain ⟨u, hu, hc⟩ := he
    exact wpAny_bind (wpAny_isInstance (T := "StopIteration") (b := true) ⟨u, hu, hc⟩ isSubtype_stop (wpAny_pure (q _ _ hk)))
end

/-! ### zip as a walk -/
def ItzB (b1 b2 : Bool) (K : PySem.W.Frag) (a b : Addr) : It :=
  ⟨fun i H => ∃ (xs ys : List V) (x y : V), SqB b1 K H a xs ∧ SqB b2 K H b ys ∧ xs[i]? = some x ∧ ys[i]? = some y,
    fun i H v H' => ∃ T x y, v = .ref T ∧ H T = none ∧ H' = upd H T (.tup [x, y]) ∧ (∀ xs, SqB b1 K H a xs → xs[i]? = some x) ∧ ∀ ys, SqB b2 K H b ys → ys[i]? = some y,
    fun i H => ∃ xs ys : List V, SqB b1 K H a xs ∧ SqB b2 K H b ys ∧ xs.length = i ∧ ys.length = i⟩
theorem turn_zipB {P : Program} {w : World} {K : PySem.W.Frag} {elts : List Expr} {kk : Nat} {tpos : Pos} (st b1 b2 : Bool) {a b zz kI kO j1 j2 : Addr} (S : ZipSep2 zz kI kO j1 j2 [j1, a] [j2, b]) (ha : a ≠ j1) (hb : b ≠ j2) :
    Turn P w K (.Tuple elts kk tpos) (ItzB b1 b2 K a b) [zz, kI, kO, j1, j2] zz (fun i h => ZipO st h zz kI kO .none ∧ IsTupOf2 h kI (.ref j1) (.ref j2) ∧ (∃ x y, IsTupOf2 h kO x y) ∧ ItB b1 h j1 a i ∧ ItB b2 h j2 b i) where
  mem := List.mem_cons_self
  obj := by
    rintro i h ⟨z1, z2, ⟨x, y, z3⟩, z4, z5⟩ c hc
    simp only [List.mem_cons, List.not_mem_nil, or_false] at hc
    rcases hc with rfl | rfl | rfl | rfl | rfl
    · exact ⟨_, z1, fun v q => nomatch q⟩
    · exact ⟨_, z2, fun v q => nomatch q⟩
    · exact ⟨_, z3, fun v q => nomatch q⟩
    · exact z4.obj
    · exact z5.obj
  keep := by
    rintro i h h' ⟨z1, z2, ⟨x, y, z3⟩, z4, z5⟩ k
    exact ⟨k zz (by simp) _ z1, k kI (by simp) _ z2, ⟨x, y, k kO (by simp) _ z3⟩, z4.at fun o q => k j1 (by simp) o q, z5.at fun o q => k j2 (by simp) o q⟩
  item := by
    intro X hP hw hK hc i pins s σ H E I hf tn hg
    subst hP hw hK
    obtain ⟨z1, z2, ⟨x0, y0, z3⟩, z4, z5⟩ := tn
    obtain ⟨xs, ys, x, y, hqx, hqy, hx, hy⟩ := hg
    obtain ⟨its, rv, pp, _⟩ := sqB_of I hqx
    obtain ⟨its2, rv2, pp2, _⟩ := sqB_of I hqy
    have l1 : i < its.toArray.size := by
      have := (List.getElem?_eq_some_iff.mp hx).1
      rw [List.size_toArray, ← rv.length]; exact this
    have l2 : i < its2.toArray.size := by
      have := (List.getElem?_eq_some_iff.mp hy).1
      rw [List.size_toArray, ← rv2.length]; exact this
    have zlt : zz < s.heap.objs.size := Heap.lt_size z1
    refine next_zip S (drawsB (A := X.A.in1) (I.ok.hd hc) b1 j1 a ha its.toArray) (drawsB (A := X.A.in1) (I.ok.hd hc) b2 j2 b hb its2.toArray) z1 z2 z3 ⟨z4, pp⟩ ⟨z5, pp2⟩ l1 l2 fun u u2 h' tk hu hu2 y1 y2 y3 y4 hT hsz hk => ?_
    refine ⟨_, rfl, go_zip (s := { s with heap := h', toks := tk }) y1 fun h'' z'' sb => ?_⟩
    have ru : RelV x u := by
      obtain ⟨u', e1, e2⟩ := rv.get hx
      have e3 : its[i]? = some u := by simpa using hu
      rw [e3] at e1; cases e1
      exact e2
    have ru2 : RelV y u2 := by
      obtain ⟨u', e1, e2⟩ := rv2.get hy
      have e3 : its2[i]? = some u2 := by simpa using hu2
      rw [e3] at e1; cases e1
      exact e2
    have tup : h''.get? s.heap.objs.size = some { cls := .type "tuple", data := .seq #[u, u2] } := (sb.2 _ (Nat.ne_of_gt zlt)).trans hT
    have ok : ObjOk X.prog X.w (upd H s.heap.objs.size (.tup [x, y])) h'' s.heap.objs.size (.tup [x, y]) := by
      refine ⟨?_, [u, u2], .cons ru (.cons ru2 .nil), ⟨_, tup, rfl, _, rfl⟩⟩
      show 2 ≤ sizeLine
      decide
    have J : Inv X pins σ (upd H s.heap.objs.size (.tup [x, y])) { s with heap := h'', toks := tk } := by
      refine I.turnedNew (t' := tk) (ch := [zz, kI, kO, j1, j2]) (fun c o hn q => ?_) hf (Nat.le_refl _) ok
      simp only [List.mem_cons, List.not_mem_nil, or_false, not_or] at hn
      exact (sb.2 c hn.1).trans (hk c o hn.1 hn.2.2.1 hn.2.2.2.1 hn.2.2.2.2 q)
    refine ⟨.ref s.heap.objs.size, _, J, rfl, ⟨_, x, y, rfl, I.hok.fresh (Nat.le_refl _), rfl, fun l hl => by rw [sqB_inj I hl hqx]; exact hx, fun l hl => by rw [sqB_inj I hl hqy]; exact hy⟩,
      ⟨z'', (sb.2 _ S.TIz).trans (hk _ _ S.TIz S.TITO S.TIi1 S.TIi2 z2), ⟨u, u2, (sb.2 _ S.TOz).trans y2⟩, y3.1.at fun o q => (sb.2 _ S.zi1.symm).trans q, y4.1.at fun o q => (sb.2 _ S.zi2.symm).trans q⟩, fun c hcm => ?_⟩
    have ltC : c < s.heap.objs.size := by
      have hcm' := hcm
      simp only [List.mem_cons, List.not_mem_nil, or_false] at hcm'
      rcases hcm' with rfl | rfl | rfl | rfl | rfl
      · exact zlt
      · exact Heap.lt_size z2
      · exact Heap.lt_size z3
      · obtain ⟨o, q, _⟩ := z4.obj; exact Heap.lt_size q
      · obtain ⟨o, q, _⟩ := z5.obj; exact Heap.lt_size q
    rw [upd_ne (Nat.ne_of_lt ltC)]
    exact (hf c hcm).1
  done := by
    intro X hP hw hK hc i pins s σ H E I hf tn hg
    subst hP hw hK
    obtain ⟨z1, z2, ⟨x0, y0, z3⟩, z4, z5⟩ := tn
    obtain ⟨xs, ys, hqx, hqy, hx, hy⟩ := hg
    obtain ⟨its, rv, pp, _⟩ := sqB_of I hqx
    obtain ⟨its2, rv2, pp2, _⟩ := sqB_of I hqy
    have l1 : its.toArray.size = i := by rw [List.size_toArray, ← rv.length]; exact hx
    have l2 : its2.toArray.size = i := by rw [List.size_toArray, ← rv2.length]; exact hy
    have D1 := drawsB (P := X.prog) (w := X.w) (A := X.A.in1) (I.ok.hd hc) b1 j1 a ha its.toArray
    have D2 := drawsB (P := X.prog) (w := X.w) (A := X.A.in1) (I.ok.hd hc) b2 j2 b hb its2.toArray
    rw [l1] at D1
    rw [l2] at D2
    refine done_zip (I.ok.hd hc) S D1 D2 z1 z2 z3 ⟨z4, pp⟩ ⟨z5, pp2⟩ fun h' tk hk => ⟨rfl, I.turnedL (t' := tk) (ch := [zz, kI, kO, j1, j2]) (fun c o hn q => ?_) hf⟩
    simp only [List.mem_cons, List.not_mem_nil, or_false, not_or] at hn
    exact hk c o hn.1 hn.2.2.1 hn.2.2.2.1 hn.2.2.2.2 q
  self := fun A i s Q E tn q => iter_zip tn.1 q
end DL

/-! DLN: zip made and walked. -/
namespace DL
open PySem PySem.Spec PyProof.Rows L2
open Sem (wp)

theorem typeCall_zipS (a b c : Value) : checkTypeCall "zip" ⟨[a, b], [(Str.ofString "strict", c)]⟩ = pure () := by kernel_rfl
theorem newCall_zipS (a b c : Value) : checkBuiltinCall "zip.__new__" ⟨[.type "zip", a, b], [(Str.ofString "strict", c)]⟩ = pure () := by kernel_rfl
theorem initArgs_zipS (obj a b c : Value) : argsOk "object.__init__" ⟨[obj, a, b], [(Str.ofString "strict", c)]⟩ := by
  unfold argsOk
  kernel_rfl
abbrev zsT (h : Heap) (o1 o2 : Obj) : Heap := ((h.push o1).push o2).push { cls := .type "tuple", data := .seq #[.ref h.objs.size, .ref (h.push o1).objs.size] }
abbrev zsO (h : Heap) (o1 o2 : Obj) : Heap := (zsT h o1 o2).push { cls := .type "tuple", data := .seq #[.none, .none] }
abbrev zsZ (h : Heap) (o1 o2 : Obj) : Heap := (zsO h o1 o2).push { cls := .type "zip", data := .fields #[.none, .bool false, .bool true, .ref ((h.push o1).push o2).objs.size, .ref (zsT h o1 o2).objs.size] }
set_option maxHeartbeats 4000000 in
theorem meets_zipS {v1 v2 : Value} {o1 o2 : Obj} {H1 H2 : Heap → Prop} (B1 : Begins v1 o1 H1) (B2 : Begins v2 o2 H2) :
    Meets (Builtin.«zip.__new__» ⟨[.type "zip", v1, v2], [(Str.ofString "strict", .bool true)]⟩) (fun _ R s => (H1 s.heap ∧ H2 s.heap) ∧
      R (.ok (.ret (.ref (zsO s.heap o1 o2).objs.size))) { s with heap := zsZ s.heap o1 o2 }) :=
  .of_wp fun prog w A R s hyp => by
    obtain ⟨hp, g, dr, tk, os⟩ := s
    obtain ⟨⟨h1, h2⟩, hyp⟩ := hyp
    have subZ := sub_zip
    have i1 : ∀ {A' : Around} {E : Value → Shared → Prop} {Q : Value → Shared → Prop}, Q (.ref hp.objs.size) ⟨hp.push o1, g, dr, tk, os⟩ → wpAny (model prog w) A' (pyIter v1) Q E ⟨hp, g, dr, tk, os⟩ :=
      fun q => B1.iter prog w _ _ ⟨hp, g, dr, tk, os⟩ _ h1 q
    have i2 : ∀ {A' : Around} {E : Value → Shared → Prop} {Q : Value → Shared → Prop}, Q (.ref (hp.push o1).objs.size) ⟨(hp.push o1).push o2, g, dr, tk, os⟩ → wpAny (model prog w) A' (pyIter v2) Q E ⟨hp.push o1, g, dr, tk, os⟩ :=
      fun q => B2.iter prog w _ _ ⟨hp.push o1, g, dr, tk, os⟩ _ (B2.keeps _ _ h2 fun b u e => Heap.get?_push_of_some _ e) q
    have e2 : (Str.ofString "strict" != ("strict" : Str)) = false := by decide +kernel
    wp_walk using i1, i2
    exact ⟨_, rfl, hyp⟩
section
variable {P : Program} {w : World} {A : Around} {E : Value → Shared → Prop} {s : Shared}
theorem zipBegins (st : Bool) {v1 v2 : Value} {o1 o2 : Obj} {H1 H2 : Heap → Prop} {Q : Value → Shared → Prop} (B1 : Begins v1 o1 H1) (B2 : Begins v2 o2 H2) (h1 : H1 s.heap) (h2 : H2 s.heap)
    (q : ∀ h', ZipO st h' (s.heap.objs.size + 4) (s.heap.objs.size + 2) (s.heap.objs.size + 3) .none → IsTupOf2 h' (s.heap.objs.size + 2) (.ref s.heap.objs.size) (.ref (s.heap.objs.size + 1)) →
      IsTupOf2 h' (s.heap.objs.size + 3) .none .none → h'.get? s.heap.objs.size = some o1 → h'.get? (s.heap.objs.size + 1) = some o2 →
      (∀ c u, s.heap.get? c = some u → h'.get? c = some u) → Q (.ref (s.heap.objs.size + 4)) { s with heap := h' }) :
    wpAny (model P w) A (call (.type "zip") [v1, v2] (if st = true then [(Str.ofString "strict", .bool true)] else [])) Q E s := by
  cases st with
  | false => exact zip_begins2 B1 B2 h1 h2 fun h' z1 z2 z3 z4 z5 _ z6 => q h' z1 z2 z3 z4 z5 z6
  | true =>
    rw [if_pos rfl]
    refine callType_newKw F.called_zip (by decide) (typeCall_zipS _ _ _) (newCall_zipS _ _ _) (fun obj => initArgs_zipS obj _ _ _) F.entry_zip_new (meets_zipS B1 B2) ⟨⟨h1, h2⟩, ?_⟩
    have k1 : (s.heap.push o1).objs.size = s.heap.objs.size + 1 := by rw [Heap.size_push]
    have k2 : ((s.heap.push o1).push o2).objs.size = s.heap.objs.size + 2 := by rw [Heap.size_push, k1]
    have kT : (zsT s.heap o1 o2).objs.size = s.heap.objs.size + 3 := by rw [Heap.size_push, k2]
    have kO : (zsO s.heap o1 o2).objs.size = s.heap.objs.size + 4 := by rw [Heap.size_push, kT]
    have uZ : (zsZ s.heap o1 o2).get? (zsO s.heap o1 o2).objs.size = some { cls := .type "zip", data := .fields #[.none, .bool false, .bool true, .ref ((s.heap.push o1).push o2).objs.size, .ref (zsT s.heap o1 o2).objs.size] } := Heap.get?_push_size _ rfl
    have uO : (zsZ s.heap o1 o2).get? (zsT s.heap o1 o2).objs.size = some { cls := .type "tuple", data := .seq #[.none, .none] } := Heap.get?_push_of_some _ (Heap.get?_push_size _ rfl)
    have uT : (zsZ s.heap o1 o2).get? ((s.heap.push o1).push o2).objs.size = some { cls := .type "tuple", data := .seq #[.ref s.heap.objs.size, .ref (s.heap.push o1).objs.size] } := Heap.get?_push_of_some _ (Heap.get?_push_of_some _ (Heap.get?_push_size _ rfl))
    have u1 : (zsZ s.heap o1 o2).get? s.heap.objs.size = some o1 := Heap.get?_push_of_some _ (Heap.get?_push_of_some _ (Heap.get?_push_of_some _ (Heap.get?_push_of_some _ (Heap.get?_push_size _ B1.free))))
    have u2 : (zsZ s.heap o1 o2).get? (s.heap.push o1).objs.size = some o2 := Heap.get?_push_of_some _ (Heap.get?_push_of_some _ (Heap.get?_push_of_some _ (Heap.get?_push_size _ B2.free)))
    rw [kO, kT, k2] at uZ
    rw [kT] at uO
    rw [k2, k1] at uT
    rw [k1] at u2
    show _ ∧ _
    rw [kO]
    exact ⟨⟨_, uZ, rfl⟩, q _ uZ uT uO u1 u2 fun c u y => Heap.get?_push_of_some _ (Heap.get?_push_of_some _ (Heap.get?_push_of_some _ (Heap.get?_push_of_some _ (Heap.get?_push_of_some _ y))))⟩
theorem callWith_tyKw {M : Model} {A : Around} {E : Value → Shared → Prop} {s : Shared} {pos : Pos} {T : String} {args : List (Bool × Sem Value)} {kws : List (Option Str × Sem Value)} {Q : Value → Shared → Prop} (hp : args.any (·.1) = false) (hk : kws.any (·.1.isNone) = false)
    (q : wpAny M A (evalArgs (.type T) true args kws) (fun a s1 => wpAny M A (call (.type T) a.pos a.kw) Q E s1) E s) : wpAny M A (callWith pos (.type T) [] args kws) Q E s := by
  unfold callWith
  refine wpAny_bind (wpAny_holding (wpAny_mono q (fun a s1 q1 => wpAny_bind (wpAny_standAt ?_)) fun _ _ z => z))
  simp only [hp, hk, Bool.or_false]
  refine wpAny_bind (wpAny_pure ?_)
  exact wpAny_bind (wpAny_mono q1 (fun r s2 q2 => wpAny_bind (wpAny_holding (wpAny_point (wpAny_pure q2)))) fun _ _ z => z)
end
section
variable {rk : Kd} {X : Cx} {ks : List Kd} {ps : List (Nat × V)} {a b c e e2 o : Expr} {es : List Expr} {pos pos' : Pos}
def iZipB (K : PySem.W.Frag) (ta : TA) : TI := fun σ H R => ta σ H fun vs H1 => ∃ b1 b2 a b xs ys, vs = [.ref a, .ref b] ∧ SqB b1 K H1 a xs ∧ SqB b2 K H1 b ys ∧ R (ItzB b1 b2 K a b) H1
theorem natNe {i j : Nat} (n : Nat) (h : i ≠ j) : n + i ≠ n + j := fun z => h (Nat.add_left_cancel z)
theorem zip_sep (n : Nat) {a b : Addr} (ha : a < n) (hb : b < n) : ZipSep2 (n + 4) (n + 2) (n + 3) n (n + 1) [n, a] [n + 1, b] := by
  have far : ∀ {c : Addr} (k : Nat), c < n → (n + k : Nat) ≠ c := fun k h z => Nat.ne_of_gt (Nat.lt_of_lt_of_le h (Nat.le_add_right n k)) z
  have mem2 : ∀ {x y z : Addr}, x ≠ y → x ≠ z → x ∉ [y, z] := fun h1 h2 m => (List.mem_cons.mp m).elim h1 fun m => h2 (List.mem_singleton.mp m)
  exact ⟨natNe n (i := 2) (j := 4) (by decide), natNe n (i := 3) (j := 4) (by decide), natNe n (i := 2) (j := 3) (by decide), natNe n (i := 2) (j := 0) (by decide), List.mem_cons_self, mem2 (natNe n (i := 4) (j := 0) (by decide)) (far 4 ha), mem2 (natNe n (i := 3) (j := 0) (by decide)) (far 3 ha),
    natNe n (i := 2) (j := 1) (by decide), List.mem_cons_self, mem2 (natNe n (i := 4) (j := 1) (by decide)) (far 4 hb), mem2 (natNe n (i := 3) (j := 1) (by decide)) (far 3 hb), mem2 (natNe n (i := 0) (j := 1) (by decide)) (far 0 hb), mem2 (natNe n (i := 1) (j := 0) (by decide)) (far 1 ha)⟩
theorem zip_walk {st : Bool} {p tpos : Pos} {elts : List Expr} {kk : Nat} {pins : List (Addr × Obj)} {σ : L2.St} {H1 : Hp} {s1 : Shared} {R : It → Hp → Prop} {b1 b2 : Bool} {ad bd : Addr} {xs ys : List V} (I1 : Inv X pins σ H1 s1) (hqx : SqB b1 X.K H1 ad xs) (hqy : SqB b2 X.K H1 bd ys) (q : R (ItzB b1 b2 X.K ad bd) H1) :
    wpAny (model X.prog X.w) X.A (call (.type "zip") [.ref ad, .ref bd] (if st = true then [(Str.ofString "strict", .bool true)] else [])) (fun v s2 => wpAny (model X.prog X.w) X.A (pyIter v) (PIE X pins σ (.Tuple elts kk tpos) R) X.xe s2) X.xe s1 := by
  obtain ⟨its, rv, pp, _⟩ := sqB_of I1 hqx
  obtain ⟨its2, rv2, pp2, _⟩ := sqB_of I1 hqy
  refine zipBegins st (beginsB b1 ad its.toArray) (beginsB b2 bd its2.toArray) pp pp2 fun h' z1 z2 z3 z4 z5 hk => iter_zip z1 ?_
  have lt1 := pp.lt
  have lt2 := pp2.lt
  refine ⟨s1.heap.objs.size + 4, [s1.heap.objs.size + 4, s1.heap.objs.size + 2, s1.heap.objs.size + 3, s1.heap.objs.size, s1.heap.objs.size + 1], _, _, H1, rfl, I1.kept (t' := s1.toks) hk,
    turn_zipB st b1 b2 (zip_sep s1.heap.objs.size lt1 lt2) (Nat.ne_of_lt lt1) (Nat.ne_of_lt (Nat.lt_succ_of_lt lt2)), ⟨z1, z2, ⟨_, _, z3⟩, itObj_it z4, itObj_it z5⟩, fun c hc => ?_, q⟩
  have le : s1.heap.objs.size ≤ c := by
    simp only [List.mem_cons, List.not_mem_nil, or_false] at hc
    rcases hc with z | z | z | z | z <;> rw [z] <;> first | exact Nat.le_refl _ | exact Nat.le_add_right _ _
  exact I1.fpOk le (I1.hok.fresh le)
theorem pi_zipB {ta : TA} {p tpos : Pos} {elts : List Expr} {kk : Nat} (hg : Gl X "zip") (hm : X.mg "zip" = none) (ha : PA X [e, e2] ta)
    (hs : starEach [e, e2] X.env = (false, eval e X.env) :: starEach [e2] X.env := by rfl) (hpl : (backTo pos (starEach [e2] X.env)).any (·.1) = false := by rfl) :
    PI X (.Tuple elts kk tpos) (.Call (.Name "zip" p) [e, e2] [] pos) (iZipB X.K ta) := by
  constructor
  intro pins s σ H R I hyp
  refine Call_ (ld_blt I hg hm PyProof.Rows.boot_zip (PyProof.Rows.callWith_type1 (thn (ha.run pos pins s σ H _ I hyp) ?_) hs hpl))
  rintro us s1 ⟨vs, H1, I1, r1, b1, b2, ad, bd, xs, ys, rfl, hqx, hqy, q⟩
  obtain ⟨u1, u2, rfl, r2, r3⟩ := vals2 r1
  cases r2
  cases r3
  exact zip_walk (st := false) (p := p) I1 hqx hqy q
theorem pi_zipS {ta : TA} {p tpos kp cp : Pos} {elts : List Expr} {kk kc : Nat} (hg : Gl X "zip") (hm : X.mg "zip" = none) (ha : PA X [e, e2] ta)
    (hs : starEach [e, e2] X.env = (false, eval e X.env) :: starEach [e2] X.env := by rfl) (hpl : (backTo pos (starEach [e, e2] X.env)).any (·.1) = false := by rfl) :
    PI X (.Tuple elts kk tpos) (.Call (.Name "zip" p) [e, e2] [⟨some "strict", .Constant (.bool true) kc cp, kp⟩] pos) (iZipB X.K ta) := by
  constructor
  intro pins s σ H R I hyp
  refine wpAny_Call_Name_kw (ld_blt I hg hm PyProof.Rows.boot_zip (callWith_tyKw hpl rfl (evalArgs_kw2 rfl (thn (ha.run pos pins s σ H _ I hyp) ?_) hs)))
  rintro us s1 ⟨vs, H1, I1, r1, b1, b2, ad, bd, xs, ys, rfl, hqx, hqy, q⟩
  obtain ⟨u1, u2, rfl, r2, r3⟩ := vals2 r1
  cases r2
  cases r3
  refine kwAll_cons (thn (pe_bl.run pins s1 σ H1 (fun x H2 => x = .bl true ∧ H2 = H1) I1 ⟨rfl, rfl⟩) ?_)
  rintro v s2 ⟨x, H2, I2, r2, rfl, rfl⟩
  cases r2
  exact kwAll_nil (zip_walk (st := true) (p := p) I2 hqx hqy q)
/-- the pairs of zip -/
def zipL (ds es : List PyData) : Option (List PyData) := if ds.length = es.length then some ((ds.zip es).map fun p => .tuple [p.1, p.2]) else none
theorem zipL_some {ds es l : List PyData} (h : zipL ds es = some l) : ds.length = es.length ∧ l.length = ds.length ∧ ∀ (i : Nat) d, l[i]? = some d → ∃ x y, ds[i]? = some x ∧ es[i]? = some y ∧ d = .tuple [x, y] := by
  unfold zipL at h
  split at h
  · rename_i hl
    cases h
    refine ⟨hl, by simp [hl], fun i d hd => ?_⟩
    rw [List.getElem?_map] at hd
    cases q : (ds.zip es)[i]? with
    | none => rw [q] at hd; cases hd
    | some p =>
      rw [q] at hd
      obtain ⟨h1, h2⟩ := List.getElem?_zip_eq_some.mp q
      exact ⟨p.1, p.2, h1, h2, (Option.some.inj hd).symm⟩
  · cases h
def mZip (ma : M (List Opd)) : M (List PyData) := bnd ma fun os => lft (match allVal os with
  | some [d, e] => match itsOf d, itsOf e with
    | some ds, some es => zipL ds es
    | _, _ => none
  | _ => none)
theorem repSqB {K : PySem.W.Frag} {H : Hp} {O : Addr → Prop} {d : PyData} {v : V} {ds : List PyData} (r : Rep K H O d v) (h : itsOf d = some ds) : ∃ b ad xs, v = .ref ad ∧ SqB b K H ad xs ∧ RepA K H O ds xs ∧ ∀ H' O', Kp O H O' H' → SqB b K H' ad xs := by
  unfold itsOf at h
  split at h
  · cases h
    simp only [Rep] at r
    obtain ⟨ad, xs, rfl, t1, a1⟩ := r
    exact ⟨true, ad, xs, rfl, t1.sq, a1, fun H' O' k => (t1.kp k).sq⟩
  · cases h
    simp only [Rep] at r
    obtain ⟨ad, xs, rfl, t1, a1⟩ := r
    exact ⟨false, ad, xs, rfl, t1.sq, a1, fun H' O' k => SqT.kp k t1.sq⟩
  · cases h
theorem zip_read {K : PySem.W.Frag} {ma : M (List Opd)} {σ : L2.St} {H : Hp} {R : It → Hp → Prop} (q : tI K ks ps (mZip ma) σ H R) : iZipB K (tAo K ks ps ma) σ H R := by
  obtain ⟨G, F, env, ds, env', I, hm', q⟩ := q
  obtain ⟨os, e1, h1, h2⟩ := bnd_some hm'
  obtain ⟨h2b, eq⟩ := lft_some h2
  subst eq
  split at h2b
  · rename_i d e' hos
    split at h2b
    · rename_i ds1 es1 g1 g2
      obtain ⟨hl, hll, hget⟩ := zipL_some h2b
      refine ⟨G, F, env, os, _, I, h1, fun vs F' H' S J r => ?_⟩
      have ra := HoldsA.vals r hos
      obtain ⟨x, y, rfl, r1, r2⟩ := repA2 ra
      obtain ⟨b1, ad, xs, rfl, q1, a1, k1⟩ := repSqB r1 g1
      obtain ⟨b2, bd, ys, rfl, q2, a2, k2⟩ := repSqB r2 g2
      have l1 := a1.length
      have l2 := a2.length
      refine ⟨b1, b2, ad, bd, xs, ys, rfl, q1, q2, q (ItzB b1 b2 K ad bd) F' H' (fun H2 => SqB b1 K H2 ad xs ∧ SqB b2 K H2 bd ys) (YPair (fun i => xs[i]?) (fun i => ys[i]?)) S J ?_ (fun F2 H2 S2 => ⟨k1 _ _ (S2.kp (G := G)), k2 _ _ (S2.kp (G := G))⟩) fun G2 i F2 H2 x H3 dd hd hg2 S2 hG2 y => ?_⟩
      · have ex : ds.length = xs.length := hll.trans l1
        rw [ex]
        have ey : ys.length = xs.length := by omega
        refine ⟨fun i H2 hi hq => ⟨xs, ys, xs[i], ys[i]'(by omega), hq.1, hq.2, List.getElem?_eq_getElem hi, List.getElem?_eq_getElem _⟩, fun H2 hq => ⟨xs, ys, hq.1, hq.2, rfl, ey⟩, fun i H2 v H3 hi hq y => ?_⟩
        obtain ⟨T, x, y, e1, e2, e3, e4, e5⟩ := y
        exact ⟨T, x, y, e1, e2, e3, e4 xs hq.1, e5 ys hq.2⟩
      · obtain ⟨x1, y1, g3, g4, rfl⟩ := hget i dd hd
        obtain ⟨T, x', y', rfl, hT, rfl, e4, e5⟩ := y
        obtain ⟨z1, p1, p2⟩ := a1.get g3
        obtain ⟨z2, p3, p4⟩ := a2.get g4
        have e4' : xs[i]? = some x' := e4
        have e5' : ys[i]? = some y' := e5
        rw [e4'] at p1
        rw [e5'] at p3
        cases p1
        cases p3
        exact ⟨same_upd hT, rep_pair (Rep.kp (S2.kp2 fun a z => (hg2 a z).imp id .inr) p2) (Rep.kp (S2.kp2 fun a z => (hg2 a z).imp id .inr) p4) hT⟩
    · cases h2b
  · cases h2b
theorem id_zip {ma : M (List Opd)} {p tpos : Pos} {elts : List Expr} {kk : Nat} (hg : Gl X "zip") (hm : X.mg "zip" = none) (ha : AoD X ks ps [e, e2] ma)
    (hs : starEach [e, e2] X.env = (false, eval e X.env) :: starEach [e2] X.env := by rfl) (hpl : (backTo pos (starEach [e2] X.env)).any (·.1) = false := by rfl) :
    ID X ks ps (.Tuple elts kk tpos) (.Call (.Name "zip" p) [e, e2] [] pos) (mZip ma) := PI.imp (pi_zipB hg hm ha hs hpl) fun σ H R q => zip_read q
theorem id_zipS {ma : M (List Opd)} {p tpos kp cp : Pos} {elts : List Expr} {kk kc : Nat} (hg : Gl X "zip") (hm : X.mg "zip" = none) (ha : AoD X ks ps [e, e2] ma)
    (hs : starEach [e, e2] X.env = (false, eval e X.env) :: starEach [e2] X.env := by rfl) (hpl : (backTo pos (starEach [e, e2] X.env)).any (·.1) = false := by rfl) :
    ID X ks ps (.Tuple elts kk tpos) (.Call (.Name "zip" p) [e, e2] [⟨some "strict", .Constant (.bool true) kc cp, kp⟩] pos) (mZip ma) := PI.imp (pi_zipS hg hm ha hs hpl) fun σ H R q => zip_read q
end
end DL

/-! DLO: displays with stars; new lists by + and *, of ranges; told targets. -/
namespace DL
open PySem PySem.Spec PyProof.Rows L2
section
variable {rk : Kd} {X : Cx} {ks : List Kd} {ps : List (Nat × V)} {a b c e o : Expr} {es : List Expr} {pos pos' : Pos}

/-! ### stars -/
def tStar (K : PySem.W.Frag) (te : TE) (t : TA) : TA := fun σ H Q => te σ H fun x H1 => ∃ bb ad xs, x = .ref ad ∧ SqB bb K H1 ad xs ∧ t σ H1 fun ys H2 => Q (xs ++ ys) H2
theorem starB {pins : List (Addr × Obj)} {s : Shared} {σ : L2.St} {H : Hp} {bb : Bool} {ad : Addr} {xs : List V} {E : Value → Shared → Prop} {Q : List Value → Shared → Prop} (I : Inv X pins σ H s) (h : SqB bb X.K H ad xs) (q : ∀ us s', Inv X pins σ H s' → Vals xs us → Q us s') :
    PySem.W.StarOf (model X.prog X.w) X.A E (.ref ad) Q s := by
  cases bb with
  | false => exact star_tup I h q
  | true =>
    obtain ⟨its, r, ⟨ob, n, ho, hc, hd, hdt⟩, hz⟩ := I.list h
    have hl := r.length
    have ty : s.TypeIs (.ref ad) "list" := ⟨ob, ho, hc⟩
    have z : wpAny (model X.prog X.w) X.A (collect (.ref ad)) Q E s := by
      refine wpAny_collect_seq ad (.inl rfl) ho hc hdt (fun h' hk => ?_) (by rw [List.size_toArray]; omega)
      have e : its.toArray.toList = its := by simp
      rw [e]
      exact q its _ (I.kept (t' := s.toks) hk) r
    unfold PySem.W.StarOf notIterableAtAll
    exact wpAny_bind (wpAny_specialOf ty PySem.F.slot_list_iter.lookup (wpAny_pure ⟨rfl, z⟩))
theorem pa_star {p : Pos} {te : TE} {t : TA} (ha : PE X e te) (hr : PA X es t) : PA X (.Starred e p :: es) (tStar X.K te t) := by
  refine ⟨fun pos pins s σ H Q I h => ?_⟩
  show wpAny _ _ (spliced ((true, (do let v ← eval e X.env; standAt pos; pure v)) :: backTo pos (starEach es X.env))) _ _ s
  refine PySem.W.ks_spliced (thn (ha.run pins s σ H _ I h) fun u s1 q => ?_)
  obtain ⟨x, H1, I1, r1, bb, ad, xs, rfl, hq, q1⟩ := q
  cases r1
  refine starB I1 hq fun us s2 I2 r2 => thn (hr.run pos pins s2 σ H1 _ I2 q1) fun ws s3 q3 => ?_
  obtain ⟨ys, H3, I3, r3, q4⟩ := q3
  exact ⟨xs ++ ys, H3, I3, r2.append r3, q4⟩
def mS0 : M (List PyData) := ret []
def mSc (m : M PyData) (r : M (List PyData)) : M (List PyData) := bnd m fun d => bnd r fun ds => ret (d :: ds)
def mSs (m : M PyData) (r : M (List PyData)) : M (List PyData) := bnd m fun d => bnd r fun ds => lft ((itsOf d).map fun l => l ++ ds)
theorem as_nil : AD X ks ps [] mS0 := PA.imp pa_nil fun σ H Q q => by
  obtain ⟨G, F, env, ds, env', I, hm, q⟩ := q
  cases hm
  exact q [] F H .refl I .nil
theorem as_cons {m : M PyData} {r : M (List PyData)} (h : ED X ks ps e m) (hr : AD X ks ps es r) (hs : starEach (e :: es) X.env = (false, eval e X.env) :: starEach es X.env := by rfl) : AD X ks ps (e :: es) (mSc m r) := PA.imp (pa_cons h hr hs) fun σ H Q q => by
  obtain ⟨G, F, env, ds, env', I, hm, q⟩ := q
  obtain ⟨d, e1, h1, h2⟩ := bnd_some hm
  obtain ⟨ds', e2, h3, h4⟩ := bnd_some h2
  cases h4
  refine ⟨G, F, env, d, e1, I, h1, fun v F1 H1 S1 I1 r1 => ⟨G, F1, e1, ds', _, I1, h3, fun vs F2 H2 S2 I2 r2 => q (v :: vs) F2 H2 (S1.trans S2) I2 (.cons (Rep.kp S2.kp r1) r2)⟩⟩
theorem as_star {p : Pos} {m : M PyData} {r : M (List PyData)} (h : ED X ks ps e m) (hr : AD X ks ps es r) : AD X ks ps (.Starred e p :: es) (mSs m r) := PA.imp (pa_star h hr) fun σ H Q q => by
  obtain ⟨G, F, env, ds, env', I, hm, q⟩ := q
  obtain ⟨d, e1, h1, h2⟩ := bnd_some hm
  obtain ⟨ds', e2, h3, h4⟩ := bnd_some h2
  obtain ⟨h5, eq⟩ := lft_some h4
  subst eq
  obtain ⟨l, h6, eq2⟩ := Option.map_eq_some_iff.mp h5
  subst eq2
  refine ⟨G, F, env, d, e1, I, h1, fun v F1 H1 S1 I1 r1 => ?_⟩
  obtain ⟨bb, ad, xs, rfl, hq, ra, _⟩ := repSqB r1 h6
  exact ⟨bb, ad, xs, rfl, hq, G, F1, e1, ds', _, I1, h3, fun vs F2 H2 S2 I2 r2 => q (xs ++ vs) F2 H2 (S1.trans S2) I2 ((RepA.kp S2.kp ra).append r2)⟩
def mTupS (ma : M (List PyData)) : M PyData := bnd ma fun ds => lft (if ds.length ≤ 1000000 then some (.tuple ds) else none)
def mLstS (ma : M (List PyData)) : M PyData := bnd ma fun ds => lft (if ds.length ≤ 1000000 then some (.list ds) else none)
theorem ed_tupS {x1} {ma : M (List PyData)} (h : AD X ks ps es ma) : ED X ks ps (.Tuple es x1 pos) (mTupS ma) := PE.imp (pe_tup h) fun σ H Q q => by
  obtain ⟨G, F, env, d, env', I, hm, q⟩ := q
  obtain ⟨ds, e1, h1, h2⟩ := bnd_some hm
  obtain ⟨h3, eq⟩ := lft_some h2
  subst eq
  split at h3
  · cases h3
    rename_i hl
    refine ⟨G, F, env, ds, _, I, h1, fun vs F1 H1 S1 I1 r1 => ⟨by rw [sizeLine_eq, ← r1.length]; exact Nat.le_trans hl (by decide), fun p hp => ?_⟩⟩
    have sm := same_upd (o := .tup vs) hp
    refine q _ F1 _ (S1.trans (.same sm)) (I1.same sm) ?_
    simp only [Rep]
    exact ⟨p, vs, rfl, .inl upd_same, RepA.kp (Same.kp sm) r1⟩
  · cases h3
theorem fd_lstS {ma : M (List PyData)} (h : AD X ks ps es ma) : FD X ks ps .l1 (.List es pos) (mLstS ma) := PE.imp (pe_lst h) fun σ H Q q => by
  obtain ⟨G, F, env, d, env', I, hm, q⟩ := q
  obtain ⟨ds, e1, h1, h2⟩ := bnd_some hm
  obtain ⟨h3, eq⟩ := lft_some h2
  subst eq
  split at h3
  · cases h3
    rename_i hl
    refine ⟨G, F, env, ds, _, I, h1, fun vs F1 H1 S1 I1 r1 => ⟨by rw [sizeLine_eq, ← r1.length]; exact Nat.le_trans hl (by decide), fun p hp => ?_⟩⟩
    refine q _ F1 _ [p] (S1.trans (.same (same_upd hp))) (fresh_own I1 hp) ⟨p, vs, ds, rfl, rfl, rfl, upd_same, RepA.kp (fresh_kp hp) r1⟩ (List.nodup_cons.mpr ⟨List.not_mem_nil, List.nodup_nil⟩) fun a ha => ?_
    rw [List.mem_singleton.mp ha]
    exact ⟨fun z => I1.gt p z hp, .inr (S1.back hp)⟩
  · cases h3
theorem ed_lstS {ma : M (List PyData)} (h : AD X ks ps es ma) : ED X ks ps (.List es pos) (mLstS ma) := ed_own (fd_lstS h)

/-! ### new lists -/
/-- a new list that takes xs -/
theorem new_l1 {G : Addr → Prop} {F F1 : List (List Addr)} {σ : L2.St} {H H1 : Hp} {env : Ev} {Q : VK} {ds : List PyData} {vs : List V} {p : Addr} (S1 : Stp F H F1 H1) (I1 : EI X.K ks ps G F1 σ H1 env) (ra : RepA X.K H1 (OO G F1) ds vs) (hp : H1 p = none)
    (q : ∀ v F' H' Fr, Stp F H F' H' → EI X.K ks ps (fun a => G a ∨ a ∈ Fr) F' σ H' env → OwnAt X.K H' (OO (fun a => G a ∨ a ∈ Fr) F') .l1 Fr (.list ds) v → Fr.Nodup → (∀ a ∈ Fr, ¬ G a ∧ (a ∈ F.flatten ∨ H a = none)) → Q v H') : Q (.ref p) (upd H1 p (.lst vs)) := by
  refine q _ F1 _ [p] (S1.trans (.same (same_upd hp))) (fresh_own I1 hp) ⟨p, vs, ds, rfl, rfl, rfl, upd_same, RepA.kp (fresh_kp hp) ra⟩ (List.nodup_cons.mpr ⟨List.not_mem_nil, List.nodup_nil⟩) fun a ha => ?_
  rw [List.mem_singleton.mp ha]
  exact ⟨fun z => I1.gt p z hp, .inr (S1.back hp)⟩
/-- what an operand holds as a list: the items hang on nothing that may change -/
theorem HoldsO.lst {G : Addr → Prop} {F : List (List Addr)} {σ : L2.St} {H : Hp} {env : Ev} {op : Opd} {v : V} {ds : List PyData} (hk : ∀ i, op = .slot i → ks[i]? = some .l1 ∨ ks[i]? = some .frz) (I : EI X.K ks ps G F σ H env) (h : HoldsO X.K ks G F σ H op v) (e : op.get env = some (.list ds)) :
    ∃ ad xs, v = .ref ad ∧ SqL X.K H ad xs ∧ RepA X.K H (OO G F) ds xs := by
  cases op with
  | val d =>
    cases e
    have r := HoldsO.rep I h (d := .list ds) rfl
    simp only [Opd.own, Bool.false_eq_true, if_false, Rep] at r
    obtain ⟨ad, xs, rfl, t1, a1⟩ := r
    exact ⟨ad, xs, rfl, t1.sq, a1⟩
  | slot i =>
    have e2 : env[i]? = some (some (.list ds)) := by
      unfold Opd.get at e
      dsimp only at e
      split at e
      · cases e; assumption
      · cases e
    have h2 : σ[i]? = some (some v) := h
    rcases hk i rfl with k | k
    · obtain ⟨w, Fi, e3, e4, o⟩ := I.sl i _ _ e2 k
      obtain ⟨ad, xs, ds', _, e5, rfl, e6, ra⟩ := o
      cases e5
      rw [h2] at e3
      cases e3
      exact ⟨ad, xs, rfl, .inl (.inl e6), ra⟩
    · obtain ⟨w, e3, r⟩ := I.at_frz e2 k
      rw [h2] at e3
      cases e3
      simp only [Rep] at r
      obtain ⟨ad, xs, rfl, t1, a1⟩ := r
      exact ⟨ad, xs, rfl, t1.sq, a1⟩
def SlotOk (ks : List Kd) (m : M Opd) : Prop := ∀ e op e', m e = some (op, e') → ∀ i, op = .slot i → ks[i]? = some .l1 ∨ ks[i]? = some .frz
theorem slotOk_val {m : M PyData} : SlotOk ks (mVal m) := fun e op e' h i hi => by
  obtain ⟨d, e1, _, h2⟩ := bnd_some h
  cases h2
  cases hi
theorem slotOk_slot {i : Nat} (hk : ks[i]? = some .l1) : SlotOk ks (mSlot i) := fun e op e' h j hj => by
  unfold mSlot at h
  split at h
  · cases h
    cases hj
    exact .inl hk
  · cases h
def mCat (ma mb : M Opd) : M PyData := bnd ma fun x => bnd mb fun y => fun e => match x.get e, y.get e with
  | some (.list xs), some (.list ys) => if xs.length + ys.length ≤ sizeLine then some (.list (xs ++ ys), e) else none
  | _, _ => none
theorem fd_cat {ma mb : M Opd} (ha : RD X ks ps a ma) (hb : RD X ks ps b mb) (sa : SlotOk ks ma) (sb : SlotOk ks mb) : FD X ks ps .l1 (.BinOp a .Add b pos) (mCat ma mb) := by
  refine PE.imp (pe_op (r := fun x y H Q => ∃ l c xs zs, x = .ref l ∧ y = .ref c ∧ SqL X.K H l xs ∧ SqL X.K H c zs ∧ xs.length + zs.length ≤ sizeLine ∧ ∀ p, H p = none → Q (.ref p) (upd H p (.lst (xs ++ zs)))) ?_ ha hb) fun σ H Q q => ?_
  · intro pins s σ H x y v u Q I rx ry h
    obtain ⟨l, c, xs, zs, rfl, rfl, h1, h2, hz, q⟩ := h
    cases rx
    cases ry
    exact cat_listS I h1 h2 hz q
  · obtain ⟨G, F, env, d, env', I, hm, q⟩ := q
    obtain ⟨x, e1, h1, h2⟩ := bnd_some hm
    obtain ⟨y, e2, h3, h4⟩ := bnd_some h2
    split at h4
    · rename_i xs ys g1 g2
      split at h4
      · rename_i hl
        cases h4
        refine ⟨G, F, env, x, e1, I, h1, fun v F1 H1 S1 I1 r1 => ⟨G, F1, e1, y, _, I1, h3, fun u F2 H2 S2 I2 r2 => ?_⟩⟩
        obtain ⟨l, vs, rfl, q1, a1⟩ := HoldsO.lst (sa _ _ _ h1) I2 (r1.stp S2) g1
        obtain ⟨c, ws, rfl, q2, a2⟩ := HoldsO.lst (sb _ _ _ h3) I2 r2 g2
        refine ⟨l, c, vs, ws, rfl, rfl, q1, q2, by rw [← a1.length, ← a2.length]; exact hl, fun p hp => new_l1 (S1.trans S2) I2 (a1.append a2) hp q⟩
      · cases h4
    · cases h4
theorem ed_cat {ma mb : M Opd} (ha : RD X ks ps a ma) (hb : RD X ks ps b mb) (sa : SlotOk ks ma) (sb : SlotOk ks mb) : ED X ks ps (.BinOp a .Add b pos) (mCat ma mb) := ed_own (fd_cat ha hb sa sb)
/-- [..] * n -/
def mRep (ma : M (List Opd)) (mb : M PyData) : M PyData := bnd ma fun os => bnd mb fun d => lft (match allVal os, d with
  | some ds, .int k => if ds.length ≤ 1000 ∧ k.natAbs ≤ 10000 then some (.list (List.replicate k.toNat ds).flatten) else none
  | _, _ => none)
theorem RepA.rep {K : PySem.W.Frag} {H : Hp} {O : Addr → Prop} {ds : List PyData} {xs : List V} (h : RepA K H O ds xs) : ∀ n : Nat, RepA K H O (List.replicate n ds).flatten (List.replicate n xs).flatten
  | 0 => .nil
  | n + 1 => by
    rw [List.replicate_succ, List.replicate_succ, List.flatten_cons, List.flatten_cons]
    exact h.append (RepA.rep h n)
theorem fd_rep {lpos : Pos} {ma : M (List Opd)} {mb : M PyData} (ha : AoD X ks ps es ma) (hb : ED X ks ps b mb) : FD X ks ps .l1 (.BinOp (.List es lpos) .Mult b pos) (mRep ma mb) :=
  PE.imp (pe_op op_rep (pe_lst ha) hb) fun σ H Q q => by
    obtain ⟨G, F, env, d, env', I, hm, q⟩ := q
    obtain ⟨os, e1, h1, h2⟩ := bnd_some hm
    obtain ⟨dk, e2, h3, h4⟩ := bnd_some h2
    obtain ⟨h5, eq⟩ := lft_some h4
    subst eq
    split at h5
    · rename_i ds k g1
      split at h5
      · rename_i hl
        cases h5
        refine ⟨G, F, env, os, e1, I, h1, fun vs F1 H1 S1 I1 r1 => ?_⟩
        have ra := HoldsA.vals r1 g1
        have hlen : vs.length ≤ 1000 := by rw [← ra.length]; exact hl.1
        refine ⟨Nat.le_of_lt (small1000 hlen), fun p hp => ?_⟩
        have I2 := fresh_own (u := .lst vs) I1 hp
        refine ⟨_, F1, e1, .int k, _, I2, h3, fun u F2 H2 S2 I3 r2 => ?_⟩
        simp only [Rep] at r2
        subst r2
        have pF : p ∉ F1.flatten := fun z => (I1.tr p z).1 hp
        have eP : H2 p = some (.lst vs) := S2.keep p _ upd_same pF
        refine ⟨p, k, vs, rfl, rfl, eP, by omega, by omega, ?_, fun p2 hp2 => ?_⟩
        · have h1 : vs.length * k.toNat ≤ 1000 * 10000 := Nat.mul_le_mul hlen (by omega)
          rw [sizeLine_eq]
          omega
        · have ra2 : RepA X.K H2 (OO G F2) ds vs := RepA.kp (Kp.trans (fresh_kp (u := .lst vs) hp) ((S2.kp).trans (Kp.less fun a z => z.imp .inl id))) ra
          exact new_l1 ((S1.trans (.same (same_upd hp))).trans S2) (I3.lessG fun a z => .inl z) (ra2.rep k.toNat) hp2 q
      · cases h5
    · cases h5
theorem ed_rep {lpos : Pos} {ma : M (List Opd)} {mb : M PyData} (ha : AoD X ks ps es ma) (hb : ED X ks ps b mb) : ED X ks ps (.BinOp (.List es lpos) .Mult b pos) (mRep ma mb) := ed_own (fd_rep ha hb)

/-! ### list(range(..)), tuple(range(..)) -/
def rgOk (i j : Int) : Bool := decide (-(2 ^ 40) ≤ i) && (decide (i < 2 ^ 40) && (decide (-(2 ^ 40) ≤ j) && (decide (j < 2 ^ 40) && decide ((j - i).toNat ≤ 1000000))))
theorem rgOk_ok {i j : Int} (h : rgOk i j = true) : RgOk i j := by
  unfold rgOk at h
  simp only [Bool.and_eq_true, decide_eq_true_eq] at h
  exact ⟨by omega, by omega, by omega, by omega, by omega⟩
theorem repA_rg {K : PySem.W.Frag} {H : Hp} {O : Addr → Prop} (i j : Int) : RepA K H O (rngL i (j - i).toNat) (rgV i j) := by
  refine .mk (by simp [rngL, rgV_length]) fun k d x e1 e2 => ?_
  have e3 := rngL_get e1
  subst e3
  unfold rgV at e2
  rw [List.getElem?_map] at e2
  cases q : (List.range (j - i).toNat)[k]? with
  | none => rw [q] at e2; cases e2
  | some m =>
    rw [q] at e2
    cases e2
    have hm := List.getElem?_eq_some_iff.mp q
    obtain ⟨hk, hm⟩ := hm
    rw [List.getElem_range] at hm
    subst hm
    exact rep_int
def mRg1 (m : M PyData) : M (Int × Int) := bnd m fun d => lft (match d with
  | .int j => if rgOk 0 j then some (0, j) else none
  | _ => none)
def mRg2 (m n : M PyData) : M (Int × Int) := bnd m fun d => bnd n fun e => lft (match d, e with
  | .int i, .int j => if rgOk i j then some (i, j) else none
  | _, _ => none)
def mLRg (m : M (Int × Int)) : M PyData := bnd m fun p => ret (.list (rngL p.1 (p.2 - p.1).toNat))
def mTRg (m : M (Int × Int)) : M PyData := bnd m fun p => ret (.tuple (rngL p.1 (p.2 - p.1).toNat))
def tRg (K : PySem.W.Frag) (ks : List Kd) (ps : List (Nat × V)) (m : M (Int × Int)) : L2.St → Hp → (Int → Int → Hp → Prop) → Prop := fun σ H Q => ∃ G F env p env', EI K ks ps G F σ H env ∧ m env = some (p, env') ∧
  ∀ F' H', Stp F H F' H' → EI K ks ps G F' σ H' env' → RgOk p.1 p.2 → Q p.1 p.2 H'
abbrev RgD (X : Cx) (ks : List Kd) (ps : List (Nat × V)) (e : Expr) (m : M (Int × Int)) : Prop := PRg X e (tRg X.K ks ps m)
theorem PRg.imp {t t' : L2.St → Hp → (Int → Int → Hp → Prop) → Prop} (h : PRg X e t) (w : ∀ σ H Q, t' σ H Q → t σ H Q) : PRg X e t' := fun pins s σ H Q I q => h pins s σ H Q I (w σ H Q q)
theorem rgd_1 {p : Pos} {m : M PyData} (hg : Gl X "range") (hm : X.mg "range" = none) (ha : ED X ks ps a m) (na : starEach [a] X.env = (false, eval a X.env) :: starEach [] X.env := by rfl) : RgD X ks ps (.Call (.Name "range" p) [a] [] pos) (mRg1 m) :=
  PRg.imp (prg_1 hg hm ha na) fun σ H Q q => by
    obtain ⟨G, F, env, p, env', I, hm', q⟩ := q
    obtain ⟨d, e1, h1, h2⟩ := bnd_some hm'
    obtain ⟨h3, eq⟩ := lft_some h2
    subst eq
    split at h3
    · split at h3
      · rename_i j hr
        cases h3
        refine ⟨G, F, env, _, _, I, h1, fun v F' H' S J r => ?_⟩
        simp only [Rep] at r
        exact ⟨j, r, q F' H' S J (rgOk_ok hr)⟩
      · cases h3
    · cases h3
theorem rgd_2 {p : Pos} {m n : M PyData} (hg : Gl X "range") (hm : X.mg "range" = none) (ha : ED X ks ps a m) (hb : ED X ks ps b n) (na : starEach [a, b] X.env = (false, eval a X.env) :: starEach [b] X.env := by rfl)
    (nb : starEach [b] X.env = (false, eval b X.env) :: starEach [] X.env := by rfl) (hp : (backTo pos (starEach [b] X.env)).any (·.1) = false := by rfl) : RgD X ks ps (.Call (.Name "range" p) [a, b] [] pos) (mRg2 m n) :=
  PRg.imp (prg_2 hg hm ha hb na nb hp) fun σ H Q q => by
    obtain ⟨G, F, env, p, env', I, hm', q⟩ := q
    obtain ⟨d, e1, h1, h2⟩ := bnd_some hm'
    obtain ⟨d', e2, h3, h4⟩ := bnd_some h2
    obtain ⟨h5, eq⟩ := lft_some h4
    subst eq
    split at h5
    · split at h5
      · rename_i i j hr
        cases h5
        refine ⟨G, F, env, _, _, I, h1, fun v F' H' S J r => ⟨G, F', e1, _, _, J, h3, fun u F2 H2 S2 J2 r2 => ?_⟩⟩
        simp only [Rep] at r r2
        exact ⟨i, j, r, r2, q F2 H2 (S.trans S2) J2 (rgOk_ok hr)⟩
      · cases h5
    · cases h5
theorem fd_listRg {p : Pos} {m : M (Int × Int)} (hg : Gl X "list") (hm : X.mg "list" = none) (he : RgD X ks ps e m) (hc : X.calm = true := by rfl) (na : starEach [e] X.env = (false, eval e X.env) :: starEach [] X.env := by rfl) : FD X ks ps .l1 (.Call (.Name "list" p) [e] [] pos) (mLRg m) :=
  PE.imp (pe_listRg hc hg hm he na) fun σ H Q q => by
    obtain ⟨G, F, env, d, env', I, hm', q⟩ := q
    obtain ⟨p, e1, h1, h2⟩ := bnd_some hm'
    cases h2
    exact ⟨G, F, env, p, _, I, h1, fun F' H' S J ok => ⟨ok, fun l hl => new_l1 S J (repA_rg p.1 p.2) hl q⟩⟩
theorem ed_listRg {p : Pos} {m : M (Int × Int)} (hg : Gl X "list") (hm : X.mg "list" = none) (he : RgD X ks ps e m) (hc : X.calm = true := by rfl) (na : starEach [e] X.env = (false, eval e X.env) :: starEach [] X.env := by rfl) : ED X ks ps (.Call (.Name "list" p) [e] [] pos) (mLRg m) := ed_own (fd_listRg hg hm he hc na)
theorem ed_tupRg {p : Pos} {m : M (Int × Int)} (hg : Gl X "tuple") (hm : X.mg "tuple" = none) (he : RgD X ks ps e m) (hc : X.calm = true := by rfl) (na : starEach [e] X.env = (false, eval e X.env) :: starEach [] X.env := by rfl) : ED X ks ps (.Call (.Name "tuple" p) [e] [] pos) (mTRg m) :=
  PE.imp (pe_tupRg hc hg hm he na) fun σ H Q q => by
    obtain ⟨G, F, env, d, env', I, hm', q⟩ := q
    obtain ⟨p, e1, h1, h2⟩ := bnd_some hm'
    cases h2
    refine ⟨G, F, env, p, _, I, h1, fun F' H' S J ok => ⟨ok, fun l hl => ?_⟩⟩
    have sm := same_upd (o := .tup (rgV p.1 p.2)) hl
    refine q _ F' _ (S.trans (.same sm)) (J.same sm) ?_
    simp only [Rep]
    exact ⟨l, _, rfl, .inl upd_same, repA_rg p.1 p.2⟩

/-! ### targets that may own -/
structure StpW (F Frs : List (List Addr)) (H : Hp) (F' : List (List Addr)) (H' : Hp) : Prop where
  keep : ∀ a o, H a = some o → a ∉ F.flatten → a ∉ Frs.flatten → H' a = some o
  dom : ∀ a, H a ≠ none → H' a ≠ none
  tup : ∀ a xs, H a = some (.tup xs) → H' a = some (.tup xs)
  frz : ∀ a o u, H a = some (.frz o u) → H' a = some (.frz o u)
  new : ∀ a ∈ F'.flatten, a ∈ F.flatten ∨ a ∈ Frs.flatten ∨ H a = none
def tGk (K : PySem.W.Frag) (ks : List Kd) (ps : List (Nat × V)) (kds : List Kd) (m : List PyData → Ev → Option Ev) : TGs := fun vs σ H Q => ∃ G F env Frs ds env', EI K ks ps (fun a => G a ∨ a ∈ Frs.flatten) F σ H env ∧ OwnL K H (OO (fun a => G a ∨ a ∈ Frs.flatten) F) kds Frs ds vs ∧ Frs.flatten.Nodup ∧ (∀ a ∈ Frs.flatten, ¬ G a) ∧ m ds env = some env' ∧
  ∀ σ' F' H', StpW F Frs H F' H' → EI K ks ps G F' σ' H' env' → Q σ' H'
abbrev GkD (X : Cx) (ks : List Kd) (ps : List (Nat × V)) (kds : List Kd) (ts : List Expr) (m : List PyData → Ev → Option Ev) : Prop := PGs X ts (tGk X.K ks ps kds m)
theorem gk_nil : GkD X ks ps [] [] gNl := PGs.imp pgs_nil fun vs σ H Q q => by
  obtain ⟨G, F, env, Frs, ds, env', I, ⟨rfl, rfl, rfl⟩, hn, hG, hm, q⟩ := q
  cases hm
  rw [List.flatten_nil, noneG] at I
  exact ⟨rfl, q σ F H ⟨fun _ _ e _ _ => e, fun _ e => e, fun _ _ e => e, fun _ _ _ e => e, fun a ha => .inl ha⟩ I⟩
theorem flatG {G : Addr → Prop} {Fr : List Addr} {Frs : List (List Addr)} : (fun a => G a ∨ a ∈ (Fr :: Frs).flatten) = fun a => (G a ∨ a ∈ Frs.flatten) ∨ a ∈ Fr := by
  funext a
  rw [List.flatten_cons, List.mem_append]
  apply propext
  constructor
  · rintro (z | z | z)
    · exact .inl (.inl z)
    · exact .inr z
    · exact .inl (.inr z)
  · rintro ((z | z) | z)
    · exact .inl z
    · exact .inr (.inr z)
    · exact .inr (.inl z)
theorem gk_name {i : Nat} {x : Str} {kd : Kd} {kds : List Kd} {m : List PyData → Ev → Option Ev} (hN : X.N.Nodup) (hi : X.N[i]? = some x) (hx : Loc X.env.scope x) (hk : ks[i]? = some kd) (hp : psOk ps i = true) (h : GkD X ks ps kds es m) (hf : X.fn x = true ∨ X.env.scope.names.lookup x = some .local := by first | exact .inl rfl | exact .inr rfl | assumption)
    (hs : (assignEach (.Name x pos :: es) X.env).map (·.2) = assign (.Name x pos) X.env :: (assignEach es X.env).map (·.2) := by rfl) : GkD X ks ps (kd :: kds) (.Name x pos :: es) (gCn (gNm i) m) := PGs.imp (pgs_cons (pg_name hN hi hx hf) h hs) fun vs σ H Q q => by
  obtain ⟨G, F, env, Frs, ds, env', I, ho, hn, hG, hm, q⟩ := q
  obtain ⟨Fr, Fr', d, ds', v, vs', rfl, rfl, rfl, o1, o2⟩ := ho
  rw [flatG] at I o1 o2
  rw [List.flatten_cons] at hn
  obtain ⟨n1, n2, n3⟩ := List.nodup_append.mp hn
  have inA : ∀ {a : Addr}, a ∈ Fr → a ∈ (Fr :: Fr').flatten := fun {a} h => by rw [List.flatten_cons]; exact List.mem_append_left _ h
  have inB : ∀ {a : Addr}, a ∈ Fr'.flatten → a ∈ (Fr :: Fr').flatten := fun {a} h => by rw [List.flatten_cons]; exact List.mem_append_right _ h
  have I1 := I.setK (G := fun a => G a ∨ a ∈ Fr'.flatten) hk hp n1 (fun a ha z => z.elim (hG a (inA ha)) fun z => n3 a ha a z rfl) o1
  have sub : ∀ a ∈ (F.set i Fr).flatten, a ∈ F.flatten ∨ a ∈ Fr := fun a z => by
    rcases mem_set z with m | ⟨j, Fj, hj, e, m⟩
    · exact .inr m
    · exact .inl (mem_flat.mpr ⟨j, Fj, e, m⟩)
  have less : ∀ a, OO (fun a => G a ∨ a ∈ Fr'.flatten) (F.set i Fr) a → OO (fun a => (G a ∨ a ∈ Fr'.flatten) ∨ a ∈ Fr) F a := fun a z => by
    rcases z with z | z
    · exact .inl (.inl z)
    · exact (sub a z).elim .inr fun z => .inl (.inr z)
  have hm' : m ds' (env.set i (some d)) = some env' := hm
  refine ⟨v, vs', rfl, G, F.set i Fr, _, Fr', ds', env', I1, o2.kp (Kp.less less) fun a _ ob e => e, n2, fun a ha => hG a (inB ha), hm', fun σ' F' H' S J => q σ' F' H' ⟨fun a o e n1 n2 => S.keep a o e (fun z => (sub a z).elim n1 fun z => n2 (inA z)) fun z => n2 (inB z), S.dom, S.tup, S.frz, fun a ha => ?_⟩ J⟩
  rcases S.new a ha with z | z | z
  · exact (sub a z).imp id fun z => .inl (inA z)
  · exact .inr (.inl (inB z))
  · exact .inr (.inr z)
theorem gk_frz {vs0 : List Nat} {kds : List Kd} {g : St1} {m : List PyData → Ev → Option Ev} (h1 : GD X ks ps vs0 e g) (h2 : GkD X ks ps kds es m)
    (hs : (assignEach (e :: es) X.env).map (·.2) = assign e X.env :: (assignEach es X.env).map (·.2) := by rfl) : GkD X ks ps (.frz :: kds) (e :: es) (gCn g m) := PGs.imp (pgs_cons h1 h2 hs) fun vs σ H Q q => by
  obtain ⟨G, F, env, Frs, ds, env', I, ho, hn, hG, hm, q⟩ := q
  obtain ⟨Fr, Fr', d, ds', v, vs', rfl, rfl, rfl, o1, o2⟩ := ho
  obtain ⟨rfl, r1⟩ := o1
  rw [List.flatten_cons, List.nil_append] at I hn hG r1 o2
  have hm : (match g d env with | none => none | some e1 => m ds' e1) = some env' := hm
  cases g1 : g d env with
  | none => rw [g1] at hm; cases hm
  | some e1 =>
    rw [g1] at hm
    refine ⟨v, vs', rfl, fun a => G a ∨ a ∈ Fr'.flatten, F, env, d, e1, I, r1, g1, fun σ1 F1 H1 w1 S1 I1 => ?_⟩
    have nF : ∀ a ∈ Fr'.flatten, a ∉ F.flatten := fun a ha z => (I.tr a z).2 (.inr ha)
    refine ⟨G, F1, e1, Fr', ds', env', I1, o2.kp S1.kp fun a ha o e => S1.keep a o e (nF a ha), hn, hG, hm, fun σ' F' H' S J => q σ' F' H' ⟨fun a o e n1 n2 => ?_, fun a e => S.dom a (S1.dom a e), fun a xs e => S.tup a xs (S1.tup a xs e), fun a o u e => S.frz a o u (S1.frz a o u e), fun a ha => ?_⟩ J⟩
    · rw [List.flatten_cons, List.nil_append] at n2
      refine S.keep a o (S1.keep a o e n1) (fun z => ?_) n2
      rcases S1.new a z with y | y
      · exact n1 y
      · rw [y] at e; cases e
    · rw [List.flatten_cons, List.nil_append]
      rcases S.new a ha with z | z | z
      · exact (S1.new a z).imp id .inr
      · exact .inr (.inl z)
      · exact .inr (.inr (S1.back z))
def sParG (m : M (List PyData)) (g : List PyData → Ev → Option Ev) : B := fun e => match m e with
  | none => none
  | some (ds, e1) => match g ds e1 with
    | none => none
    | some e2 => some (.nx e2)
theorem sParG_some {m : M (List PyData)} {g : List PyData → Ev → Option Ev} {e : Ev} {out : Out} (h : sParG m g e = some out) : ∃ ds e1 e2, m e = some (ds, e1) ∧ g ds e1 = some e2 ∧ out = .nx e2 := by
  unfold sParG at h
  split at h
  · cases h
  · split at h
    · cases h
    · cases h
      exact ⟨_, _, _, by assumption, by assumption, rfl⟩
/-- told targets = as many values -/
theorem sd_parG {ts : List Expr} {kt k2 pt2} {pt : Pos} {n : Nat} {kds : List Kd} {m : M (List PyData)} {g : List PyData → Ev → Option Ev} (hc : X.calm = true) (hg : GkD X ks ps kds ts g) (hl : kds.length = n) (ha : AfD X ks ps kds es m) (hw : swappedStores [.Tuple ts kt pt] (.Tuple es k2 pt2) X.env = pure none := by rfl)
    (hs : swapsWithSole [.Tuple ts kt pt] (.Tuple es k2 pt2) pos.line X.env = pure false := by rfl) (h1 : (assignEach [.Tuple ts kt pt] X.env).map (·.2) = [assign (.Tuple ts kt pt) X.env] := by rfl) (hts : (assignEach ts X.env).length = n := by rfl) (hst : (assignEach ts X.env).findIdx? (·.1) = none := by rfl) (hz : n ≤ sizeLine := by decide) :
    SD X ks ps rk (.Assign [.Tuple ts kt pt] (.Tuple es k2 pt2) pos) (sParG m g) := PS.imp (ps_asg (pe_tup ha) (pg_tup hc hg hts hst) hs hw h1) fun D σ H q => by
  obtain ⟨G, F, env, out, I, hm, q⟩ := q
  obtain ⟨ds, e1, e2, h1, h2, rfl⟩ := sParG_some hm
  refine ⟨G, F, env, ds, e1, I, h1, fun vs F1 H1 Frs S1 I1 o1 n1 hF => ?_⟩
  have lv : vs.length = n := o1.len.1.trans hl
  refine ⟨by rw [lv]; exact hz, fun p hp => ?_⟩
  have s := same_upd (o := .tup vs) hp
  refine ⟨p, vs, rfl, .inl (.inl upd_same), lv, G, F1, e1, Frs, ds, e2, I1.same s, o1.kp (Same.kp s) fun a _ ob e => s a ob e, n1, fun a ha => (hF a ha).1, h2, fun σ' F' H' S J => q σ' F' H' ⟨fun a o e n2 => ?_, fun a e => S.dom a ((Stp.same (F := F1) s).dom a (S1.dom a e)), fun a xs e => S.tup a xs (s _ _ (S1.tup a xs e)), fun a o u e => S.frz a o u (s _ _ (S1.frz a o u e)), fun a ha => ?_⟩ J⟩
  · refine S.keep a o (s _ _ (S1.keep a o e n2)) (fun z => ?_) fun z => ?_
    · rcases S1.new a z with y | y
      · exact n2 y
      · rw [y] at e; cases e
    · rcases (hF a z).2 with y | y
      · exact n2 y
      · rw [y] at e; cases e
  · rcases S.new a ha with z | z | z
    · exact S1.new a z
    · exact (hF a z).2
    · exact .inr (S1.back ((Stp.same (F := F1) s).back z))
/-- name = [..] where the name is a local that owns, and both stand on one line -/
theorem sd_ownLc {j : Nat} {y : Str} {py spos : Pos} {elt tg it : Expr} {ifs : List Expr} {scope : Scope} {own : List (Str × Nat)} {mi : M (List PyData)} {g : St1} {t : M Bool} {m : M PyData} (hc : X.calm = true) (hN : X.N.Nodup) (hy : X.N[j]? = some y) (hyl : X.env.scope.names.lookup y = some .local)
    (hk : ks[j]? = some .l1) (hpj : psOk ps j = true)
    (hsw : swapsWith (.ListComp elt [⟨tg, it, ifs, 0⟩] scope pos) (some (.Name y py)) spos.line X.env = pure true) (hi : ID X ks ps tg it mi) (ok : BlkOk X.N X.env.scope scope own)
    (hg : ∀ (s : Shared) (H : Hp) (C : Addr) (cl : List (Str × Addr)) (fp : List Addr), GD (X.blk s H scope (compEnvC scope cl C X.env) fp) ks ps (own.map (·.2)) tg g)
    (ht : ∀ (s : Shared) (H : Hp) (C : Addr) (cl : List (Str × Addr)) (fp : List Addr), PTs (X.blk s H scope (compEnvC scope cl C X.env) fp) ifs (tT X.K ks ps t))
    (he : ∀ (s : Shared) (H : Hp) (C : Addr) (cl : List (Str × Addr)) (fp : List Addr), ED (X.blk s H scope (compEnvC scope cl C X.env) fp) ks ps elt m)
    (hp : frzAll ks ps (own.map (·.2)) = true)
    (hs : ∀ x, foldedSetIterable it X.env x = pure x := by intro _; rfl) : SD X ks ps rk (.Assign [.Name y py] (.ListComp elt [⟨tg, it, ifs, 0⟩] scope pos) spos) (sAsg (mComp mi g t m (own.map (·.2))) (gNm j)) :=
  PS.imp (ps_setLc hc hN hy hyl hsw hi ok hg ht he hs) fun D σ H q => by
    obtain ⟨G, F, env, out, I, hm, q⟩ := q
    obtain ⟨d, e1, e2, h1, h2, rfl⟩ := sAsg_some hm
    cases h2
    obtain ⟨ds, e3, ys, e4, h3, hl, h4, rfl, rfl⟩ := mComp_some h1
    obtain ⟨hk', hp⟩ := frzAll_k hp
    refine comp_read (Q := fun x H1 => gName j x σ H1 D.nx) I h3 hl h4 hk' hp fun L xs F' H' S J hD eD ra nO => ?_
    have eG : (fun a => G a ∨ a = L) = fun a => G a ∨ a ∈ [L] := by funext a; simp
    rw [eG] at J ra
    refine q _ (F'.set j [L]) H' ⟨S.keep, S.dom, S.tup, S.frz, fun a ha => ?_⟩ (J.setOwn hk (by decide) hpj (List.nodup_cons.mpr ⟨List.not_mem_nil, List.nodup_nil⟩) (fun a ha => by rw [List.mem_singleton.mp ha]; exact fun z => nO (.inl z)) ⟨L, xs, ys, rfl, rfl, rfl, eD, ra⟩)
    rcases mem_set ha with h | ⟨j', Fj, hj, e, m'⟩
    · rw [List.mem_singleton.mp h]; exact .inr hD
    · exact S.new a (mem_flat.mpr ⟨j', Fj, e, m'⟩)
end
end DL

/-! DLP: raise (never met), powers, shifts, extend, pop, sorted, dicts. -/
namespace DL
open PySem PySem.Spec PyProof.Rows L2
section
variable {rk : Kd} {X : Cx} {ks : List Kd} {ps : List (Nat × V)} {a b c e o : Expr} {es : List Expr} {pos pos' : Pos}
def powD : PyData → PyData → Option PyData
  | .int i, .int j => if 0 ≤ j ∧ j ≤ 1000000 ∧ i.natAbs < 2 ^ 64 then some (.int (i ^ j.toNat)) else none
  | _, _ => none
def shlD : PyData → PyData → Option PyData
  | .int i, .int j => if 0 ≤ j ∧ j ≤ 1000000 ∧ i.natAbs < 2 ^ 64 then some (.int (i * 2 ^ j.toNat)) else none
  | _, _ => none
theorem o_pow : Op2 X (binaryOp .Pow) powD := o_ints op_pow fun d e r h => by
  unfold powD at h
  split at h
  · split at h
    · rename_i hc; cases h; exact ⟨_, _, rfl, rfl, hc, fun _ _ _ => rep_int⟩
    · cases h
  · cases h
theorem o_shl : Op2 X (binaryOp .LShift) shlD := o_ints op_shl fun d e r h => by
  unfold shlD at h
  split at h
  · split at h
    · rename_i hc; cases h; exact ⟨_, _, rfl, rfl, hc, fun _ _ _ => rep_int⟩
    · cases h
  · cases h
/-! ### lists of one's own -/
/-- x.extend(e) -/
def mExt (i : Nat) (m : M PyData) : M PyData := fun e => match lstAt i e with
  | none => none
  | some _ => match m e with
    | some (.list zs, e1) => match lstAt i e1 with
      | none => none
      | some ds => if ds.length + zs.length ≤ 1000000 then some (.none, e1.set i (some (.list (ds ++ zs)))) else none
    | _ => none
theorem ed_extend {i : Nat} {x : Str} {m : M PyData} {apos : Pos} (hN : X.N[i]? = some x) (hk : ks[i]? = some .l1) (he : FD X ks ps .l1 e m) (hv : Vis X.env.scope x := by first | exact Or.inl rfl | exact Or.inr (Or.inl rfl) | exact Or.inr (Or.inr rfl)) (hd : (x == ("__debug__" : Str)) = false := by decide)
    (hcd : (x == ("__classdict__" : Str)) = false := by decide) (hs : starEach [e] X.env = (false, eval e X.env) :: starEach [] X.env := by rfl)
    (hfew : ((backTo pos (starEach [e] X.env)).all (fun x => !x.1) && (backToKw pos (keywordEach [] X.env)).all (fun x => x.1.isSome) && decide ([e].length + ([] : List Keyword).length + (if ([] : List Keyword).isEmpty then 0 else 1) < 30)) = true := by rfl)
    (hline : (apos.endLine == pos.line) = true := by rfl) (hbase : attributeBase (.Name x pos') "extend" X.env (eval (.Name x pos') X.env) = eval (.Name x pos') X.env := by rfl) : ED X ks ps (.Call (.Attribute (.Name x pos') "extend" apos) [e] [] pos) (mExt i m) :=
  PE.imp (pe_bm PySem.F.plainAttrs_list PySem.F.slot_list_extend PySem.F.type_list_extend mt_extend (pe_var hN hv hd hcd) (pa_cons he pa_nil hs) hbase hfew hline hs) fun σ H Q q => by
    obtain ⟨G, F, env, d, env', I, hm, q⟩ := q
    unfold mExt at hm
    split at hm
    · cases hm
    · rename_i ds0 h0
      split at hm
      · rename_i zs e1 h1
        split at hm
        · cases hm
        · rename_i ds h2
          split at hm
          · cases hm
            rename_i hl
            obtain ⟨a, xs, hσ, eH, r, _⟩ := I.putL (lstAt_some h0) hk
            refine ⟨_, hσ, .inl ⟨rfl, xs, .inl (.inl eH)⟩, G, F, env, _, e1, I, h1, fun w F1 H1 Fr S1 I1 o hn hF => ?_⟩
            obtain ⟨b, ws, zs', rfl, ez, rfl, eb, rz⟩ := o
            cases ez
            have I2 : EI X.K ks ps G F1 σ H1 e1 := I1.lessG fun _ z => .inl z
            obtain ⟨a', xs', hσ', eH', r', put⟩ := I2.putL (lstAt_some h2) hk
            have ea : a' = a := by rw [hσ] at hσ'; cases hσ'; rfl
            subst ea
            have rz2 : RepA X.K H1 (OO G F1) zs ws := RepA.kp (Kp.less fun a z => z.elim (fun z => .inl (.inl z)) .inr) rz
            obtain ⟨J, S, kp⟩ := put (ds ++ zs) (xs' ++ ws) (r'.append rz2)
            refine ⟨a', b, xs', ws, rfl, rfl, eH', eb, ?_, q .non F1 _ (S1.trans S) J rep_non⟩
            rw [← r'.length, ← rz.length, sizeLine_eq]
            exact Nat.le_trans hl (by decide)
          · cases hm
      · cases hm
/-- x.pop() -/
def mPop (i : Nat) : M PyData := fun e => match lstAt i e with
  | none => none
  | some ds => match ds.getLast? with
    | none => none
    | some y => some (y, e.set i (some (.list ds.dropLast)))
theorem ed_pop {i : Nat} {x : Str} {apos : Pos} (hN : X.N[i]? = some x) (hk : ks[i]? = some .l1) (hv : Vis X.env.scope x := by first | exact Or.inl rfl | exact Or.inr (Or.inl rfl) | exact Or.inr (Or.inr rfl)) (hd : (x == ("__debug__" : Str)) = false := by decide)
    (hcd : (x == ("__classdict__" : Str)) = false := by decide) (hline : (apos.endLine == pos.line) = true := by rfl) (hbase : attributeBase (.Name x pos') "pop" X.env (eval (.Name x pos') X.env) = eval (.Name x pos') X.env := by rfl) :
    ED X ks ps (.Call (.Attribute (.Name x pos') "pop" apos) [] [] pos) (mPop i) :=
  PE.imp (pe_bm0 PySem.F.plainAttrs_list PySem.F.slot_list_pop PySem.F.type_list_pop mt_pop (pe_var hN hv hd hcd) hbase hline) fun σ H Q q => by
    obtain ⟨G, F, env, d, env', I, hm, q⟩ := q
    unfold mPop at hm
    split at hm
    · cases hm
    · rename_i ds h0
      split at hm
      · cases hm
      · rename_i y hy
        cases hm
        obtain ⟨a, xs, hσ, eH, r, put⟩ := I.putL (lstAt_some h0) hk
        have hl := r.length
        have hne : ds ≠ [] := by rintro rfl; simp at hy
        have hy2 : ds[ds.length - 1]? = some d := by rw [← List.getLast?_eq_getElem?]; exact hy
        obtain ⟨v, hv1, hv2⟩ := r.get hy2
        rw [hl] at hv1
        have r2 : RepA X.K H (OO G F) ds.dropLast xs.dropLast := by
          rw [List.dropLast_eq_take, List.dropLast_eq_take, hl]
          exact r.take _
        obtain ⟨J, S, kp⟩ := put ds.dropLast xs.dropLast r2
        exact ⟨_, hσ, .inl ⟨rfl, xs, .inl (.inl eH)⟩, a, xs, v, rfl, rfl, eH, hv1, q v F _ S J (Rep.kp kp hv2)⟩
/-- x.pop(e) -/
def mPopAt (i : Nat) (m : M PyData) : M PyData := fun e => match lstAt i e with
  | none => none
  | some _ => match m e with
    | some (.int j, e1) => match lstAt i e1 with
      | none => none
      | some ds => if 0 ≤ j ∧ j < ds.length ∧ ds.length ≤ 1000000 then match ds[j.toNat]? with
        | some y => some (y, e1.set i (some (.list (ds.eraseIdx j.toNat))))
        | none => none
        else none
    | _ => none
theorem RepA.erase {K : PySem.W.Frag} {H : Hp} {O : Addr → Prop} {ds : List PyData} {xs : List V} (n : Nat) (h : RepA K H O ds xs) : RepA K H O (ds.eraseIdx n) (xs.eraseIdx n) := by
  rw [List.eraseIdx_eq_take_drop_succ, List.eraseIdx_eq_take_drop_succ]
  exact (h.take n).append (h.drop (n + 1))
theorem ed_popAt {i : Nat} {x : Str} {m : M PyData} {apos : Pos} (hN : X.N[i]? = some x) (hk : ks[i]? = some .l1) (he : ED X ks ps e m) (hv : Vis X.env.scope x := by first | exact Or.inl rfl | exact Or.inr (Or.inl rfl) | exact Or.inr (Or.inr rfl)) (hd : (x == ("__debug__" : Str)) = false := by decide)
    (hcd : (x == ("__classdict__" : Str)) = false := by decide) (hs : starEach [e] X.env = (false, eval e X.env) :: starEach [] X.env := by rfl)
    (hfew : ((backTo pos (starEach [e] X.env)).all (fun x => !x.1) && (backToKw pos (keywordEach [] X.env)).all (fun x => x.1.isSome) && decide ([e].length + ([] : List Keyword).length + (if ([] : List Keyword).isEmpty then 0 else 1) < 30)) = true := by rfl)
    (hline : (apos.endLine == pos.line) = true := by rfl) (hbase : attributeBase (.Name x pos') "pop" X.env (eval (.Name x pos') X.env) = eval (.Name x pos') X.env := by rfl) : ED X ks ps (.Call (.Attribute (.Name x pos') "pop" apos) [e] [] pos) (mPopAt i m) :=
  PE.imp (pe_bm PySem.F.plainAttrs_list PySem.F.slot_list_pop PySem.F.type_list_pop mt_popAt (pe_var hN hv hd hcd) (pa_cons he pa_nil hs) hbase hfew hline hs) fun σ H Q q => by
    obtain ⟨G, F, env, d, env', I, hm, q⟩ := q
    unfold mPopAt at hm
    split at hm
    · cases hm
    · rename_i ds0 h0
      split at hm
      · rename_i j e1 h1
        split at hm
        · cases hm
        · rename_i ds h2
          split at hm
          · rename_i hj
            split at hm
            · rename_i y hy
              cases hm
              obtain ⟨a, xs, hσ, eH, r, _⟩ := I.putL (lstAt_some h0) hk
              refine ⟨_, hσ, .inl ⟨rfl, xs, .inl (.inl eH)⟩, G, F, env, _, e1, I, h1, fun w F1 H1 S1 I1 r1 => ?_⟩
              obtain ⟨a', xs', hσ', eH', r', put⟩ := I1.putL (lstAt_some h2) hk
              have ea : a' = a := by rw [hσ] at hσ'; cases hσ'; rfl
              subst ea
              have ew : w = .int j := by simpa only [Rep] using r1
              subst ew
              have hl := r'.length
              obtain ⟨v, hv1, hv2⟩ := r'.get hy
              obtain ⟨J, S, kp⟩ := put (ds.eraseIdx j.toNat) (xs'.eraseIdx j.toNat) (r'.erase _)
              have hsi : seqIndex? j xs'.length = some j.toNat := by
                unfold seqIndex?
                simp only []
                first
                  | (rw [if_neg (by omega), if_pos (by omega)])
                  | (simp; omega)
              exact ⟨a', xs', j, j.toNat, v, rfl, rfl, eH', by omega, by omega, hsi, hv1, q v F1 _ (S1.trans S) J (Rep.kp kp hv2)⟩
            · cases hm
          · cases hm
      · cases hm
/-! ### chains of three -/
def mLast (h : PyData → PyData → Option PyData) (g : PyData → PyData → Option PyData) (y : Opd) (mc md : M Opd) : M PyData := bnd mc fun z => bnd (rs2 g y z) fun r => bnd (lft (bOf r)) fun k => if k then bnd md fun t => rs2 h z t else ret (.bool false)
def mChain3 (f g h : PyData → PyData → Option PyData) (ma mb mc md : M Opd) : M PyData := bnd ma fun x => bnd mb fun y => bnd (rs2 f x y) fun r => bnd (lft (bOf r)) fun k => if k then mLast h g y mc md else ret (.bool false)
def tChain3 (r r' r'' : R2) (ta tb tc td : TE) : TE := fun σ H Q => ta σ H fun x H1 => tb σ H1 fun y H2 => r x y H2 fun z H3 => ∃ k, z = .bl k ∧
  (if k = true then tc σ H3 fun w' H4 => r' y w' H4 fun z2 H5 => ∃ k2, z2 = .bl k2 ∧ (if k2 = true then td σ H5 fun t H6 => r'' w' t H6 Q else Q (.bl false) H5) else Q (.bl false) H3)
theorem pe_chain3 {ta tb tc td : TE} {d : Expr} {op op' op'' : CmpOp} {r r' r'' : R2} (ho : OpR X (compareOp op) r) (ho' : OpR X (compareOp op') r') (ho'' : OpR X (compareOp op'') r'') (ha : PE X a ta) (hb : PE X b tb) (hc : PE X c tc) (hd : PE X d td)
    (hm : lastMarks [op, op', op''] [b, c, d] = false := by with_unfolding_all rfl) : PE X (.Compare a [op, op', op''] [b, c, d] pos) (tChain3 r r' r'' ta tb tc td) := by
  refine ⟨fun pins s σ H Q I h => ?_⟩
  refine Compare_chain (thn (ha.run pins s σ H _ I h) fun v s1 ⟨x, H1, I1, r1, q1⟩ => chain_link (thn (hb.run pins s1 σ H1 _ I1 q1) fun u s2 ⟨y, H2, I2, r2, q2⟩ =>
    thn (ho pins s2 σ H2 x y v u _ I2 r1 r2 q2) fun d s3 ⟨z, H3, I3, r3, k, e, q3⟩ => ?_)) hm
  subst e
  cases r3
  refine wpAny_truthy_bool ?_
  cases k with
  | false => exact ite_ff ⟨.bl false, H3, I3, rfl, q3⟩
  | true =>
    refine ite_tt (chain_link (thn (hc.run pins s3 σ H3 _ I3 q3) fun w' s4 ⟨z', H4, I4, r4, q4⟩ => thn (ho' pins s4 σ H4 y z' u w' _ I4 r2 r4 q4) fun d2 s5 ⟨z2, H5, I5, r5, k2, e2, q5⟩ => ?_))
    subst e2
    cases r5
    refine wpAny_truthy_bool ?_
    cases k2 with
    | false => exact ite_ff ⟨.bl false, H5, I5, rfl, q5⟩
    | true => exact ite_tt (chain_last (thn (hd.run pins s5 σ H5 _ I5 q5) fun t s6 ⟨z3, H6, I6, r6, q6⟩ => ho'' pins s6 σ H6 z' z3 w' t Q I6 r4 r6 q6))
theorem pt_chain3 {ta tb tc td : TE} {d : Expr} {op op' op'' : CmpOp} {r r' r'' : R2} (ho : OpR X (compareOp op) r) (ho' : OpR X (compareOp op') r') (ho'' : OpR X (compareOp op'') r'') (ha : PE X a ta) (hb : PE X b tb) (hc : PE X c tc) (hd : PE X d td)
    (hm : lastMarks [op, op', op''] [b, c, d] = false := by with_unfolding_all rfl) : PT X (.Compare a [op, op', op''] [b, c, d] pos) (tTest (tChain3 r r' r'' ta tb tc td)) := by
  refine ⟨fun pins s σ H Q I h => ?_⟩
  refine isTrue_chain (thn (ha.run pins s σ H _ I h) fun v s1 ⟨x, H1, I1, r1, q1⟩ => test_link (thn (hb.run pins s1 σ H1 _ I1 q1) fun u s2 ⟨y, H2, I2, r2, q2⟩ =>
    thn (ho pins s2 σ H2 x y v u _ I2 r1 r2 q2) fun d s3 ⟨z, H3, I3, r3, k, e, q3⟩ => ?_)) hm
  subst e
  cases r3
  refine wpAny_truthy_bool ?_
  cases k with
  | false =>
    obtain ⟨k', e', q'⟩ := q3
    cases e'
    exact ite_ff ⟨H3, I3, q'⟩
  | true =>
    refine ite_tt (test_link (thn (hc.run pins s3 σ H3 _ I3 q3) fun w' s4 ⟨z', H4, I4, r4, q4⟩ => thn (ho' pins s4 σ H4 y z' u w' _ I4 r2 r4 q4) fun d2 s5 ⟨z2, H5, I5, r5, k2, e2, q5⟩ => ?_))
    subst e2
    cases r5
    refine wpAny_truthy_bool ?_
    cases k2 with
    | false =>
      obtain ⟨k', e', q'⟩ := q5
      cases e'
      exact ite_ff ⟨H5, I5, q'⟩
    | true =>
      refine ite_tt (test_last (thn (hd.run pins s5 σ H5 _ I5 q5) fun t s6 ⟨z3, H6, I6, r6, q6⟩ => thn (ho'' pins s6 σ H6 z' z3 w' t _ I6 r4 r6 q6) fun d' s7 ⟨z4, H7, I7, r7, k3, e3, q7⟩ => ?_))
      subst e3
      cases r7
      exact wpAny_truthy_bool ⟨H7, I7, q7⟩
abbrev RdR (X : Cx) (g : PyData → PyData → Option PyData) : R2 := fun x y H Q => ∃ O dx dy d, (∀ p, H p = none → ¬ O p) ∧ Rep X.K H O dx x ∧ Rep X.K H O dy y ∧ g dx dy = some d ∧ ∀ v H', Same H H' → Rep X.K H' O d v → Q v H'
theorem chain3_read {f g h : PyData → PyData → Option PyData} {ma mb mc md : M Opd} {σ : L2.St} {H : Hp} {Q : VK}
    (q : tD X.K ks ps (mChain3 f g h ma mb mc md) σ H Q) : tChain3 (RdR X f) (RdR X g) (RdR X h) (tR X.K ks ps ma) (tR X.K ks ps mb) (tR X.K ks ps mc) (tR X.K ks ps md) σ H Q := by
  obtain ⟨G, F, env, d, env', I, hm, q⟩ := q
  obtain ⟨ox, e1, h1, ha⟩ := bnd_some hm
  obtain ⟨oy, e2, h3, hb⟩ := bnd_some ha
  obtain ⟨rr, e3, h5, hc⟩ := bnd_some hb
  obtain ⟨k, e4, h6, h7⟩ := bnd_some hc
  obtain ⟨h6, rfl⟩ := lft_some h6
  obtain ⟨rfl, dx, dy, g1, g2, g3, gi⟩ := rs2_some h5
  have er : rr = .bool k := by
    cases rr with
    | bool k' => cases h6; rfl
    | _ => cases h6
  subst er
  refine ⟨G, F, env, ox, e1, I, h1, fun v F1 H1 S1 I1 r1 => ⟨G, F1, e1, oy, _, I1, h3, fun u F2 H2 S2 I2 r2 => ?_⟩⟩
  have r1' := HoldsO.rep I2 (r1.stp S2) g1
  have r2' := HoldsO.rep I2 r2 g2
  refine ⟨if (ox.own || oy.own) then fun _ => False else OO G F2, dx, dy, _, fresh_if I2, Rep.kp (less_if (by intro z; simp [z])) r1', Rep.kp (less_if (by intro z; simp [z])) r2', g3, fun w H3 s3 r3 => ?_⟩
  simp only [Rep] at r3
  refine ⟨k, r3, ?_⟩
  have I3 := I2.same s3
  have S3 := (S1.trans S2).trans (.same s3)
  cases k with
  | false =>
    rw [if_neg Bool.false_ne_true]
    rw [if_neg Bool.false_ne_true] at h7
    cases h7
    exact q _ F2 H3 S3 I3 rep_bl
  | true =>
    rw [if_pos rfl]
    rw [if_pos rfl] at h7
    obtain ⟨oz, e5, h8, h9⟩ := bnd_some h7
    obtain ⟨rr2, e6, i5, ic⟩ := bnd_some h9
    obtain ⟨k2, e7, i6, i7⟩ := bnd_some ic
    obtain ⟨i6, rfl⟩ := lft_some i6
    obtain ⟨rfl, dy', dz, k1, k2', k3, ki⟩ := rs2_some i5
    have er2 : rr2 = .bool k2 := by
      cases rr2 with
      | bool k' => cases i6; rfl
      | _ => cases i6
    subst er2
    refine ⟨G, F2, _, oz, _, I3, h8, fun t F4 H4 S4 I4 r4 => ?_⟩
    have q1 := HoldsO.rep I4 ((r2.stp (.same s3)).stp S4) k1
    have q2 := HoldsO.rep I4 r4 k2'
    refine ⟨if (oy.own || oz.own) then fun _ => False else OO G F4, dy', dz, _, fresh_if I4, Rep.kp (less_if (by intro z; simp [z])) q1, Rep.kp (less_if (by intro z; simp [z])) q2, k3, fun w' H5 s5 r5 => ?_⟩
    simp only [Rep] at r5
    refine ⟨k2, r5, ?_⟩
    have I5 := I4.same s5
    have S5 := (S3.trans S4).trans (.same s5)
    cases k2 with
    | false =>
      rw [if_neg Bool.false_ne_true]
      rw [if_neg Bool.false_ne_true] at i7
      cases i7
      exact q _ F4 H5 S5 I5 rep_bl
    | true =>
      rw [if_pos rfl]
      rw [if_pos rfl] at i7
      obtain ⟨ot, e8, j8, j9⟩ := bnd_some i7
      obtain ⟨rfl, dz', dt, l1, l2, l3, li⟩ := rs2_some j9
      refine ⟨G, F4, _, ot, _, I5, j8, fun t2 F6 H6 S6 I6 r6 => ?_⟩
      have p1 := HoldsO.rep I6 ((r4.stp (.same s5)).stp S6) l1
      have p2 := HoldsO.rep I6 r6 l2
      refine ⟨if (oz.own || ot.own) then fun _ => False else OO G F6, dz', dt, d, fresh_if I6, Rep.kp (less_if (by intro z; simp [z])) p1, Rep.kp (less_if (by intro z; simp [z])) p2, l3, fun w2 H7 s7 r7 => ?_⟩
      exact q w2 F6 H7 ((S5.trans S6).trans (.same s7)) (I6.same s7) (ifown li r7)
theorem ed_chain3 {d : Expr} {op op' op'' : CmpOp} {f g h : PyData → PyData → Option PyData} {ma mb mc md : M Opd} (ho : Op2 X (compareOp op) f) (ho' : Op2 X (compareOp op') g) (ho'' : Op2 X (compareOp op'') h) (ha : RD X ks ps a ma) (hb : RD X ks ps b mb) (hc : RD X ks ps c mc) (hd : RD X ks ps d md)
    (hm : lastMarks [op, op', op''] [b, c, d] = false := by with_unfolding_all rfl) : ED X ks ps (.Compare a [op, op', op''] [b, c, d] pos) (mChain3 f g h ma mb mc md) :=
  PE.imp (pe_chain3 ho ho' ho'' ha hb hc hd hm) fun σ H Q q => chain3_read q
theorem td_chain3 {d : Expr} {op op' op'' : CmpOp} {f g h : PyData → PyData → Option PyData} {ma mb mc md : M Opd} (ho : Op2 X (compareOp op) f) (ho' : Op2 X (compareOp op') g) (ho'' : Op2 X (compareOp op'') h) (ha : RD X ks ps a ma) (hb : RD X ks ps b mb) (hc : RD X ks ps c mc) (hd : RD X ks ps d md)
    (hm : lastMarks [op, op', op''] [b, c, d] = false := by with_unfolding_all rfl) : TD X ks ps (.Compare a [op, op', op''] [b, c, d] pos) (mTest (mChain3 f g h ma mb mc md)) :=
  PT.imp (pt_chain3 ho ho' ho'' ha hb hc hd hm) fun σ H Q q => by
    obtain ⟨G, F, env, d, env', I, hm, q⟩ := q
    obtain ⟨x, e1, h1, h2⟩ := bnd_some hm
    obtain ⟨h2, rfl⟩ := lft_some h2
    refine chain3_read ⟨G, F, env, x, env', I, h1, fun v F' H' S J r => ?_⟩
    cases x with
    | bool k =>
      cases h2
      simp only [Rep] at r
      exact ⟨_, r, q F' H' S J⟩
    | _ => cases h2
/-! ### sorted -/
def alikeB (ds : List PyData) : Bool := ds.all fun d => ds.all fun d' => PySem.W.alike d d'
def sortB (ds : List PyData) : Bool := (ds.all fun d => match d with
    | .tuple (_ :: _) => true
    | _ => false) || (ds.all fun d => match d with
    | .none => false
    | .tuple _ => false
    | _ => true)
def sortL (ds : List PyData) : List PyData := ds.mergeSort (PySem.W.dataLe false id)
def sortedD : List PyData → Option PyData
  | [.list ds] => if alikeB ds && sortB ds && layA ds && decide (ds.length ≤ 1000000) && decide (PyData.depthAll ds ≤ 60) then some (.list (sortL ds)) else none
  | _ => none
theorem alikeB_ok {ds : List PyData} (h : alikeB ds = true) : PySem.W.AllAlike ds := by
  intro d hd d' hd'
  unfold alikeB at h
  rw [List.all_eq_true] at h
  have := h d hd
  rw [List.all_eq_true] at this
  exact this d' hd'
theorem sortB_ok {ds : List PyData} (h : sortB ds = true) : PySem.W.Sortable ds := by
  unfold sortB at h
  rw [Bool.or_eq_true, List.all_eq_true, List.all_eq_true] at h
  refine h.imp (fun h d hd => ?_) fun h d hd => ?_
  · have := h d hd
    split at this
    · exact ⟨_, _, rfl⟩
    · cases this
  · have := h d hd
    split at this
    · cases this
    · cases this
    · rename_i n1 n2
      exact ⟨n1, fun xs => n2 xs⟩
theorem layA_get : ∀ {ds : List PyData} {d : PyData}, layA ds = true → d ∈ ds → layD d = true
  | [], d, _, h => nomatch h
  | x :: r, d, h, m => by
    unfold layA at h
    rw [Bool.and_eq_true] at h
    rcases List.mem_cons.mp m with rfl | m
    · exact h.1
    · exact layA_get h.2 m
theorem depA_get : ∀ {ds : List PyData} {d : PyData} {n : Nat}, PyData.depthAll ds ≤ n → d ∈ ds → d.depth ≤ n
  | [], d, _, _, h => nomatch h
  | x :: r, d, n, h, m => by
    simp only [PyData.depthAll] at h
    rcases List.mem_cons.mp m with rfl | m
    · omega
    · exact depA_get (by omega) m
/-- values and data, side by side -/
theorem each_zip {K : PySem.W.Frag} {H : Hp} {O : Addr → Prop} : ∀ {ds : List PyData} {xs : List V} {us : List Value}, RepA K H O ds xs → Vals xs us → PySem.W.EachIs (fun u (p : V × PyData) => RelV p.1 u ∧ Rep K H O p.2 p.1) us (xs.zip ds)
  | [], xs, us, h, r => by
    simp only [RepA] at h
    subst h
    cases r
    exact .nil
  | d :: ds, xs, us, h, r => by
    simp only [RepA] at h
    obtain ⟨x, t, rfl, h1, h2⟩ := h
    cases r with
    | cons r1 r2 => exact .cons ⟨r1, h1⟩ (each_zip h2 r2)
theorem each_vals {R : Value → V × PyData → Prop} (hR : ∀ u p, R u p → RelV p.1 u) : ∀ {us : List Value} {ps : List (V × PyData)}, PySem.W.EachIs R us ps → Vals (ps.map (·.1)) us
  | _, _, .nil => .nil
  | _, _, .cons h t => .cons (hR _ _ h) (each_vals hR t)
theorem each_rep {K : PySem.W.Frag} {H : Hp} {O : Addr → Prop} {R : Value → V × PyData → Prop} (hR : ∀ u p, R u p → Rep K H O p.2 p.1) : ∀ {us : List Value} {ps : List (V × PyData)}, PySem.W.EachIs R us ps → RepA K H O (ps.map (·.2)) (ps.map (·.1))
  | _, _, .nil => .nil
  | _, _, .cons h t => .cons (hR _ _ h) (each_rep hR t)
theorem zip_snd : ∀ {xs : List V} {ds : List PyData}, xs.length = ds.length → (xs.zip ds).map (·.2) = ds
  | [], [], _ => rfl
  | x :: xs, d :: ds, h => by
    rw [List.zip_cons_cons, List.map_cons, zip_snd (by simpa using h)]
  | [], _ :: _, h => by simp at h
  | _ :: _, [], h => by simp at h
theorem f_sorted (hu : X.A.units + 64 < cLine) : FnV X (.builtin "sorted") sortedD := by
  intro pins s σ H xs us Q I r q
  obtain ⟨O, ds0, d, fr, r1, e, q⟩ := q
  unfold sortedD at e
  split at e
  · rename_i ds
    split at e
    · rename_i hc
      cases e
      simp only [Bool.and_eq_true, decide_eq_true_eq] at hc
      obtain ⟨⟨⟨⟨c1, c2⟩, c3⟩, c4⟩, c5⟩ := hc
      obtain ⟨x, rfl, r2⟩ := repA1 r1
      simp only [Rep] at r2
      obtain ⟨a, vs, rfl, t1, a1⟩ := r2
      obtain ⟨its, rv, hl, hz⟩ := I.list t1.sq
      rw [Vals.ref1 r]
      have hlen := a1.length
      have E := each_zip a1 rv
      have em : (vs.zip ds).map (fun p : V × PyData => p.2) = ds := zip_snd hlen.symm
      refine PySem.W.sorted_data (bs := vs.zip ds) (enc := fun p : V × PyData => p.2) (R := fun u (p : V × PyData) => (RelV p.1 u ∧ Rep X.K H O p.2 p.1)) hl.isList E ?_ (by rw [em]; exact alikeB_ok c1) (by rw [em]; exact sortB_ok c2) (by rw [List.length_zip, sizeLine_eq]; omega) ?_ fun out h1 h2 => ?_
      · have hmem : ∀ {us : List Value} {ps : List (V × PyData)}, PySem.W.EachIs (fun u (p : V × PyData) => RelV p.1 u ∧ Rep X.K H O p.2 p.1) us ps → (∀ p ∈ ps, layD p.2 = true) → PySem.W.EachIs (fun u (p : V × PyData) => ∃ as, Reads s.heap u p.2 as) us ps := by
          intro us ps h
          induction h with
          | nil => intro _; exact .nil
          | cons h t ih =>
            intro hp
            obtain ⟨as, q1, _⟩ := Rep.reads I (hp _ List.mem_cons_self) h.2 h.1
            exact .cons ⟨as, q1⟩ (ih fun p m => hp p (List.mem_cons_of_mem _ m))
        exact hmem E fun p m => layA_get c3 (List.of_mem_zip m).2
      · intro p m
        have := depA_get c5 (List.of_mem_zip m).2
        show X.A.units + 2 + p.2.depth < cLine
        omega
      · obtain ⟨ep, he'⟩ := PyProof.Rows.sortedAll_at s.heap its out.toArray
        have hv := each_vals (fun u p h => h.1) h2
        have hr := each_rep (fun u p h => h.2) h2
        have e2 : ((vs.zip ds).mergeSort (PySem.W.dataLe false fun p : V × PyData => p.2)).map (·.2) = sortL ds := by
          unfold sortL
          have z := List.map_mergeSort (r := PySem.W.dataLe false fun p : V × PyData => p.2) (s := PySem.W.dataLe false id) (f := fun p : V × PyData => p.2) (l := vs.zip ds) fun _ _ _ _ => rfl
          rw [em] at z
          exact z
        rw [e2] at hr
        generalize hW : ((vs.zip ds).mergeSort (PySem.W.dataLe false fun p : V × PyData => p.2)).map (·.1) = ws at hv hr
        have hwl : ws.length ≤ sizeLine := by
          rw [← hr.length, sizeLine_eq]
          unfold sortL
          rw [List.length_mergeSort]
          omega
        have hp := I.hok.fresh (Nat.le_succ s.heap.objs.size)
        have sm := same_upd (o := .lst ws) hp
        refine ⟨.ref _, upd H (s.heap.objs.size + 1) (.lst ws), I.laid (t' := s.toks) (fun _ _ => PyProof.Rows.sortedAll_old) (Nat.le_succ _) ⟨hwl, out, ep, hv, he'⟩, rfl, q _ _ sm ?_⟩
        simp only [Rep]
        exact ⟨_, ws, rfl, LstAt.rd (.inl upd_same) (fr _ hp), RepA.kp (Same.kp sm) hr⟩
    · cases e
  · cases e
end
end DL

/-! DLQ: calls of defs that change one of their arguments, at any place. -/
namespace DL
open PySem PySem.Spec PyProof.Rows L2
section
variable {rk : Kd} {X : Cx} {ks : List Kd} {ps : List (Nat × V)} {a b c e o : Expr} {es : List Expr} {pos pos' : Pos}
/-- no operand but the j-th is slot i -/
def onlyAt (i : Nat) : Nat → List Opd → Bool
  | _, [] => false
  | 0, o :: r => (match o with
    | .slot l => l == i
    | _ => false) && noSlot i r
  | j + 1, o :: r => (match o with
    | .slot l => l != i
    | _ => true) && onlyAt i j r
/-- the others' ownership -/
def othersOwn : Nat → List Opd → Bool
  | _, [] => false
  | 0, _ :: r => r.any Opd.own
  | j + 1, o :: r => o.own || othersOwn j r
def mCallP (rk kd : Kd) (mf : List PyData → Option (PyData × List PyData)) (i j n : Nat) (ma : M (List Opd)) : M PyData := fun e => match ma e with
  | none => none
  | some (os, e1) => match getAll os e1 with
    | none => none
    | some ds => if ds.length = n ∧ onlyAt i j os = true then match mf ds with
      | some (d, outs) => match outs[j]? with
        | some y => if othersOwn j os && !(immK rk d && decide (kd = .src)) then none else some (d, e1.set i (some y))
        | none => none
      | none => none
      else none
theorem mCallP_some {kd : Kd} {mf : List PyData → Option (PyData × List PyData)} {i j n : Nat} {ma : M (List Opd)} {e e' : Ev} {d : PyData} (h : mCallP rk kd mf i j n ma e = some (d, e')) :
    ∃ os e1 ds y outs, ma e = some (os, e1) ∧ getAll os e1 = some ds ∧ ds.length = n ∧ onlyAt i j os = true ∧ mf ds = some (d, outs) ∧ outs[j]? = some y ∧ (othersOwn j os = true → immK rk d = true ∧ kd = .src) ∧ e' = e1.set i (some y) := by
  unfold mCallP at h
  split at h
  · cases h
  · rename_i os e1 h1
    split at h
    · cases h
    · rename_i ds h2
      split at h
      · rename_i h3
        split at h
        · rename_i d' outs h4
          split at h
          · rename_i y h5
            split at h
            · cases h
            · rename_i h6
              cases h
              refine ⟨os, e1, ds, y, outs, h1, h2, h3.1, h3.2, h4, h5, fun z => ?_, rfl⟩
              rw [z] at h6
              simpa using h6
          · cases h
        · cases h
      · cases h
theorem getAll_get : ∀ {os : List Opd} {e : Ev} {ds : List PyData} {j : Nat} {o : Opd}, getAll os e = some ds → os[j]? = some o → ∃ d, o.get e = some d ∧ ds[j]? = some d
  | [], _, _, _, _, _, e2 => by simp at e2
  | o :: r, e, ds, j, o', h, e2 => by
    unfold getAll at h
    split at h
    · cases h
    · rename_i d g1
      split at h
      · cases h
      · rename_i ds' g2
        cases h
        cases j with
        | zero => simp at e2; subst e2; exact ⟨d, g1, rfl⟩
        | succ j => obtain ⟨d', q1, q2⟩ := getAll_get (j := j) g2 (by simpa using e2); exact ⟨d', q1, by simpa using q2⟩
theorem HoldsA.get {K : PySem.W.Frag} {G : Addr → Prop} {F : List (List Addr)} {σ : L2.St} {H : Hp} : ∀ {os : List Opd} {vs : List V} {j : Nat} {o : Opd}, HoldsA K ks G F σ H os vs → os[j]? = some o → ∃ v, vs[j]? = some v ∧ HoldsO K ks G F σ H o v
  | [], _, _, _, _, e2 => by simp at e2
  | o :: r, vs, j, o', h, e2 => by
    obtain ⟨x, t, rfl, h1, h2⟩ := h
    cases j with
    | zero => simp at e2; subst e2; exact ⟨x, rfl, h1⟩
    | succ j => obtain ⟨v, q1, q2⟩ := HoldsA.get (j := j) h2 (by simpa using e2); exact ⟨v, by simpa using q1, q2⟩
theorem onlyAt_at : ∀ {i j : Nat} {os : List Opd}, onlyAt i j os = true → os[j]? = some (.slot i)
  | i, j, [], h => by cases j <;> cases h
  | i, 0, o :: r, h => by
    unfold onlyAt at h
    rw [Bool.and_eq_true] at h
    cases o with
    | val d => cases h.1
    | slot l => have : l = i := by simpa using h.1
                subst this; rfl
  | i, j + 1, o :: r, h => by
    unfold onlyAt at h
    rw [Bool.and_eq_true] at h
    rw [List.getElem?_cons_succ]; exact onlyAt_at h.2
theorem noSlot_ne : ∀ {i l : Nat} {os : List Opd}, noSlot i os = true → Opd.slot l ∈ os → l ≠ i
  | i, l, [], _, m => nomatch m
  | i, l, .val d :: r, h, m => by
    rcases List.mem_cons.mp m with z | m
    · cases z
    · exact noSlot_ne (os := r) h m
  | i, l, .slot k :: r, h, m => by
    unfold noSlot at h
    rw [Bool.and_eq_true] at h
    rcases List.mem_cons.mp m with z | m
    · cases z; simpa using h.1
    · exact noSlot_ne h.2 m
theorem onlyAt_ne : ∀ {i j k l : Nat} {os : List Opd}, onlyAt i j os = true → k ≠ j → os[k]? = some (.slot l) → l ≠ i
  | i, j, k, l, [], h, _, e => by simp at e
  | i, 0, k, l, o :: r, h, hk, e => by
    unfold onlyAt at h
    rw [Bool.and_eq_true] at h
    cases k with
    | zero => exact absurd rfl hk
    | succ k => rw [List.getElem?_cons_succ] at e; exact noSlot_ne h.2 (List.mem_of_getElem? e)
  | i, j + 1, k, l, o :: r, h, hk, e => by
    unfold onlyAt at h
    rw [Bool.and_eq_true] at h
    cases k with
    | zero =>
      simp at e
      subst e
      simpa using h.1
    | succ k => rw [List.getElem?_cons_succ] at e; exact onlyAt_ne h.2 (fun z => hk (by rw [z])) e
theorem othersOwn_get : ∀ {j k : Nat} {os : List Opd} {o : Opd}, othersOwn j os = false → k ≠ j → os[k]? = some o → o.own = false
  | j, k, [], o, _, _, e => by simp at e
  | 0, k, x :: r, o, h, hk, e => by
    cases k with
    | zero => exact absurd rfl hk
    | succ k =>
      rw [List.getElem?_cons_succ] at e
      have h : r.any Opd.own = false := h
      rw [List.any_eq_false] at h
      have := h o (List.mem_of_getElem? e)
      simpa using this
  | j + 1, k, x :: r, o, h, hk, e => by
    unfold othersOwn at h
    rw [Bool.or_eq_false_iff] at h
    cases k with
    | zero => simp at e; subst e; exact h.1
    | succ k => rw [List.getElem?_cons_succ] at e; exact othersOwn_get h.2 (fun z => hk (by rw [z])) e
/-- the parameters' state: the j-th owned, the rest not -/
theorem own_EI2 {K : PySem.W.Frag} {Gc : Addr → Prop} {H : Hp} {kd : Kd} {pk : List Kd} {Fi : List Addr} {s : PyData} {v : V} {ds : List PyData} {vs : List V} {j : Nat} (hne : kd ≠ .frz) (hn : Fi.Nodup) (ht : ∀ a ∈ Fi, H a ≠ none ∧ ¬ Gc a) (hg : ∀ a, Gc a → H a ≠ none)
    (hpj : pk[j]? = some kd) (hpo : ∀ (i : Nat) k, i ≠ j → pk[i]? = some k → k = .frz) (hdl : ds.length = pk.length) (hvl : vs.length = pk.length) (hdj : ds[j]? = some s) (hvj : vs[j]? = some v)
    (ho : OwnAt K H (OO Gc [Fi]) kd Fi s v) (h : ∀ (i : Nat) d, i ≠ j → ds[i]? = some d → ∃ x, vs[i]? = some x ∧ Rep K H (OO Gc [Fi]) d x) : EI K pk [] Gc ((List.replicate pk.length []).set j Fi) (vs.map some) H (ds.map some) := by
  have hj : j < pk.length := (List.getElem?_eq_some_iff.mp hpj).1
  have at_ : ∀ (i : Nat) Fj, ((List.replicate pk.length ([] : List Addr)).set j Fi)[i]? = some Fj → (i = j ∧ Fj = Fi) ∨ (i ≠ j ∧ Fj = []) := fun i Fj e => by
    rw [List.getElem?_set] at e
    by_cases hij : j = i
    · rw [if_pos hij] at e
      split at e
      · cases e; exact .inl ⟨hij.symm, rfl⟩
      · cases e
    · rw [if_neg hij, List.getElem?_replicate] at e
      split at e
      · cases e; exact .inr ⟨fun z => hij z.symm, rfl⟩
      · cases e
  have atj : ((List.replicate pk.length ([] : List Addr)).set j Fi)[j]? = some Fi := by
    rw [List.getElem?_set, if_pos rfl, if_pos (by rw [List.length_replicate]; exact hj)]
  have fl : ∀ {a : Addr}, a ∈ ((List.replicate pk.length ([] : List Addr)).set j Fi).flatten ↔ a ∈ Fi := fun {a} => by
    constructor
    · intro z
      obtain ⟨i, Fj, e, m⟩ := mem_flat.mp z
      rcases at_ i Fj e with ⟨_, rfl⟩ | ⟨_, rfl⟩
      · exact m
      · cases m
    · exact fun m => mem_flat.mpr ⟨j, Fi, atj, m⟩
  have less : ∀ a, OO Gc ((List.replicate pk.length []).set j Fi) a → OO Gc [Fi] a := fun a z => z.imp id fun z => by simpa using fl.mp z
  refine ⟨by simp, by simp [hdl], by simp [hvl], ⟨fun i Fj e => ?_, fun i k F1 F2 a e1 e2 m1 m2 => ?_⟩, fun a ha => ht a (fl.mp ha), hg, fun i d kd' h1 h2 => ?_, (fun p hp => nomatch hp), fun i hz => ?_⟩
  · rcases at_ i Fj e with ⟨_, rfl⟩ | ⟨_, rfl⟩
    · exact hn
    · exact List.nodup_nil
  · rcases at_ i F1 e1 with ⟨q1, rfl⟩ | ⟨_, rfl⟩
    · rcases at_ k F2 e2 with ⟨q2, rfl⟩ | ⟨_, rfl⟩
      · rw [q1, q2]
      · cases m2
    · cases m1
  · rw [List.getElem?_map] at h1
    obtain ⟨d', e1, e2⟩ := Option.map_eq_some_iff.mp h1
    cases e2
    by_cases hij : i = j
    · subst hij
      rw [hpj] at h2; cases h2
      rw [hdj] at e1; cases e1
      exact ⟨v, Fi, by rw [List.getElem?_map, hvj]; rfl, atj, ho.kp (Kp.less less) fun a _ ob e => e⟩
    · have := hpo i kd' hij h2
      subst this
      obtain ⟨x, e3, r⟩ := h i _ hij e1
      have hi : i < pk.length := (List.getElem?_eq_some_iff.mp h2).1
      refine ⟨x, [], by rw [List.getElem?_map, e3]; rfl, ?_, rfl, Rep.kp (Kp.less less) r⟩
      rw [List.getElem?_set, if_neg (fun z => hij z.symm), List.getElem?_replicate, if_pos hi]
  · have hi : i < pk.length := (List.getElem?_eq_some_iff.mp hz).1
    have hij : i ≠ j := by intro z; rw [z, hpj] at hz; cases hz; exact hne rfl
    rw [List.getElem?_set, if_neg (fun z => hij z.symm), List.getElem?_replicate, if_pos hi]
theorem fd_callP {k n i j : Nat} {x : Str} {p : Pos} {kd : Kd} {pk : List Kd} {mf : List PyData → Option (PyData × List PyData)} {ma : M (List Opd)} (F : FnD X.prog X.w X.K X.mg X.base k x pk rk mf) (hr : Room k X.A) (hgd : X.A.guards = some []) (hg : Gl X x)
    (hx : Passes CX0 X E0) (hne : kd ≠ .frz) (hk : ks[i]? = some kd) (hpn : pk.length = n) (hpj : pk[j]? = some kd) (hpo : ∀ (i : Nat) k, i ≠ j → pk[i]? = some k → k = .frz) (ha : AoD X ks ps es ma) (hdb : (x == ("__debug__" : Str)) = false := by decide)
    (he : starEach es X.env = starEach es X.env := by rfl) (hes : ∃ e0 r0, es = e0 :: r0 ∧ starEach (e0 :: r0) X.env = (false, eval e0 X.env) :: starEach r0 X.env ∧ (backTo pos (starEach r0 X.env)).any (·.1) = false) :
    FD X ks ps rk (.Call (.Name x p) es [] pos) (mCallP rk kd mf i j n ma) := by
  obtain ⟨f, fd, ps', F1, hm, hkp, hb⟩ := F
  obtain ⟨e0, r0, rfl, hs, hpl⟩ := hes
  refine PE.imp (pg_call F1 hr hgd hg hm hkp hb hx ha hdb hs hpl) fun σ H Q q => ?_
  obtain ⟨G, F, env, d, env', I, hm', q⟩ := q
  obtain ⟨os, e1, ds, yv, outs, h1, h3, h4, h5, h6, h6b, h7, rfl⟩ := mCallP_some hm'
  refine ⟨G, F, env, os, e1, I, h1, fun vs F1 H1 S1 I1 r1 => ?_⟩
  have hat := onlyAt_at h5
  obtain ⟨s, g1, hds⟩ := getAll_get h3 hat
  have h2 : e1[i]? = some (some s) := by
    unfold Opd.get at g1
    dsimp only at g1
    split at g1
    · cases g1; assumption
    · cases g1
  obtain ⟨v0, hvj, hσ0⟩ := HoldsA.get r1 hat
  have hσ : σ[i]? = some (some v0) := hσ0
  obtain ⟨v', Fi, hσ', hF, ho⟩ := I1.sl i s kd h2 hk
  have ev : v' = v0 := by rw [hσ] at hσ'; exact (Option.some.inj (Option.some.inj hσ')).symm
  subst ev
  have inF : ∀ {a : Addr}, a ∈ Fi → a ∈ F1.flatten := fun {a} h => mem_flat.mpr ⟨i, Fi, hF, h⟩
  let Gc : Addr → Prop := fun a => othersOwn j os = false ∧ OO G F1 a ∧ a ∉ Fi
  have lessC : ∀ a, OO Gc [Fi] a → OO G F1 a := fun a z => by
    rcases z with z | z
    · exact z.2.1
    · exact .inr (inF (by simpa using z))
  have lenD : ds.length = os.length := by
    have : ∀ {os : List Opd} {e : Ev} {ds : List PyData}, getAll os e = some ds → ds.length = os.length := by
      intro os
      induction os with
      | nil => intro e ds h; cases h; rfl
      | cons o r ih =>
        intro e ds h
        unfold getAll at h
        split at h
        · cases h
        · split at h
          · cases h
          · rename_i ds' g2; cases h; simp [ih g2]
    exact this h3
  have lenV : vs.length = os.length := by
    have : ∀ {os : List Opd} {vs : List V}, HoldsA X.K ks G F1 σ H1 os vs → vs.length = os.length := by
      intro os
      induction os with
      | nil => intro vs h; have h : vs = [] := h; subst h; rfl
      | cons o r ih => intro vs h; obtain ⟨x, t, rfl, _, h2⟩ := h; simp [ih h2]
    exact this r1
  have rest : ∀ (l : Nat) d, l ≠ j → ds[l]? = some d → ∃ x, vs[l]? = some x ∧ Rep X.K H1 (OO Gc [Fi]) d x := fun l d hl hd => by
    have hll : l < os.length := by rw [← lenD]; exact (List.getElem?_eq_some_iff.mp hd).1
    have ho' : os[l]? = some os[l] := List.getElem?_eq_getElem hll
    obtain ⟨d', g2, g3⟩ := getAll_get h3 ho'
    rw [hd] at g3; cases g3
    obtain ⟨w, q1, q2⟩ := HoldsA.get r1 ho'
    refine ⟨w, q1, ?_⟩
    cases hc : os[l] with
    | val d0 =>
      rw [hc] at g2 q2
      cases g2
      exact Rep.kp (Kp.less lessC) q2
    | slot m =>
      rw [hc] at g2 q2 ho'
      have hm1 := onlyAt_ne h5 hl ho'
      have how : othersOwn j os = true := by
        cases z : othersOwn j os with
        | true => rfl
        | false => have := othersOwn_get z hl ho'; cases this
      unfold Opd.get at g2
      dsimp only at g2
      split at g2
      · rename_i d' hd'
        cases g2
        have hk' : m < ks.length := by rw [← I1.lE]; exact (List.getElem?_eq_some_iff.mp hd').1
        obtain ⟨v', Fl, e1', e2', o⟩ := I1.sl m d _ hd' (List.getElem?_eq_getElem hk')
        have q2 : σ[m]? = some (some w) := q2
        rw [q2] at e1'
        cases e1'
        have inFi : ∀ a, OO Gc [Fi] a → a ∈ Fi := fun a z => by
          rcases z with z | z
          · have z1 : othersOwn j os = false := z.1
            rw [how] at z1; cases z1
          · simpa using z
        refine o.repP (fun a z => .inr (inF (inFi a z))) fun a ha z => ?_
        exact hm1 (I1.nd.apart m i Fl Fi a e2' hF ha (inFi a z))
      · cases g2
  have hpk : ds.length = pk.length := by rw [h4, hpn]
  refine ⟨by rw [lenV, ← lenD, hpk], Gc, (List.replicate pk.length []).set j Fi, ds, d, outs, own_EI2 hne (I1.nd.own i Fi hF) (fun a ha => ⟨(I1.tr a (inF ha)).1, fun z => z.2.2 ha⟩) (fun a z => I1.oo a z.2.1) hpj hpo hpk (by rw [lenV, ← lenD, hpk]) hds hvj (ho.kp (Kp.less lessC) fun a _ ob e => e) rest, h6, fun w F' H' Fr S J o nF hFr => ?_⟩
  have fl : ∀ {a : Addr}, a ∈ ((List.replicate pk.length ([] : List Addr)).set j Fi).flatten → a ∈ Fi := fun {a} z => by
    obtain ⟨l, Fj, e, m⟩ := mem_flat.mp z
    rw [List.getElem?_set] at e
    split at e
    · split at e
      · cases e; exact m
      · cases e
    · rw [List.getElem?_replicate] at e
      split at e
      · cases e; cases m
      · cases e
  have lf : ∀ {a : Addr}, a ∈ Fi → a ∈ ((List.replicate pk.length ([] : List Addr)).set j Fi).flatten := fun {a} m => mem_flat.mpr ⟨j, Fi, by
    rw [List.getElem?_set, if_pos rfl, if_pos (by rw [List.length_replicate]; exact (List.getElem?_eq_some_iff.mp hpj).1)], m⟩
  obtain ⟨v2, Fi2, e2, eF2, o2⟩ := J.sl j yv kd (by rw [List.getElem?_map, h6b]; rfl) hpj
  have e3 : v2 = v' := by rw [List.getElem?_map, hvj] at e2; simpa using e2.symm
  subst e3
  have inF' : ∀ {a : Addr}, a ∈ Fi2 → a ∈ F'.flatten := fun {a} h => mem_flat.mpr ⟨j, Fi2, eF2, h⟩
  have more : othersOwn j os = false → ∀ a, OO (fun a => G a ∨ a ∈ Fr) (F1.set i Fi2) a → OO (fun a => Gc a ∨ a ∈ Fr) F' a := fun hb2 a z => by
    rcases z with (z | z) | z
    · exact .inl (.inl ⟨hb2, .inl z, fun m => (I1.tr a (inF m)).2 z⟩)
    · exact .inl (.inr z)
    · rcases mem_set z with m | ⟨l, Fj, hj, e, m⟩
      · exact .inr (inF' m)
      · exact .inl (.inl ⟨hb2, .inr (mem_flat.mpr ⟨l, Fj, e, m⟩), fun m2 => hj (I1.nd.apart l i Fj Fi a e hF m m2)⟩)
  have ho2 : OwnAt X.K H' (OO (fun a => G a ∨ a ∈ Fr) (F1.set i Fi2)) kd Fi2 yv v2 := by
    cases hb2 : othersOwn j os with
    | false => exact o2.kp (Kp.less (more hb2)) fun a _ ob e => e
    | true =>
      have := (h7 hb2).2
      subst this
      exact o2
  have newG : ∀ a ∈ Fi2, ¬ (G a ∨ a ∈ Fr) := fun a ha z => by
    rcases z with z | z
    · rcases S.new a (inF' ha) with y | y
      · exact (I1.tr a (inF (fl y))).2 z
      · exact I1.gt a z y
    · exact (J.tr a (inF' ha)).2 (.inr z)
  obtain ⟨I2, S2⟩ := I1.swap2 (G' := fun a => G a ∨ a ∈ Fr) (Fi' := Fi2) (d := yv) hF hk hne hσ (fun a u e n => S.keep a u e fun z => n (fl z)) S.dom S.tup S.frz (J.nd.own j Fi2 eF2) (fun a ha => ⟨(S.new a (inF' ha)).imp fl id, (J.tr a (inF' ha)).1, newG a ha⟩)
    (fun a z => z.imp id fun z => (hFr a z).2.imp fl id) (fun a z => z.elim (fun z => S.dom a (I1.gt a z)) fun z => J.gt a (.inr z)) ho2
  refine q w _ H' Fr (S1.trans S2) I2 ?_ nF fun a ha => ⟨fun z => (hFr a ha).2.elim (fun m => (I1.tr a (inF (fl m))).2 z) (I1.gt a z), S1.nw ((hFr a ha).2.imp (fun m => inF (fl m)) id)⟩
  cases hb2 : othersOwn j os with
  | false => exact o.kp (Kp.less (more hb2)) fun a _ ob e => e
  | true => exact OwnAt.imm (h7 hb2).1 o
theorem ed_callP {k n i j : Nat} {x : Str} {p : Pos} {kd : Kd} {pk : List Kd} {mf : List PyData → Option (PyData × List PyData)} {ma : M (List Opd)} (F : FnD X.prog X.w X.K X.mg X.base k x pk rk mf) (hr : Room k X.A) (hgd : X.A.guards = some []) (hg : Gl X x)
    (hx : Passes CX0 X E0) (hne : kd ≠ .frz) (hk : ks[i]? = some kd) (hpn : pk.length = n) (hpj : pk[j]? = some kd) (hpo : ∀ (i : Nat) k, i ≠ j → pk[i]? = some k → k = .frz) (ha : AoD X ks ps es ma) (hdb : (x == ("__debug__" : Str)) = false := by decide)
    (hes : ∃ e0 r0, es = e0 :: r0 ∧ starEach (e0 :: r0) X.env = (false, eval e0 X.env) :: starEach r0 X.env ∧ (backTo pos (starEach r0 X.env)).any (·.1) = false) :
    ED X ks ps (.Call (.Name x p) es [] pos) (mCallP rk kd mf i j n ma) := ed_own (fd_callP F hr hgd hg hx hne hk hpn hpj hpo ha hdb rfl hes)
def pkOnly : Nat → List Kd → Bool
  | _, [] => true
  | 0, _ :: r => r.all fun k => decide (k = .frz)
  | j + 1, k :: r => decide (k = .frz) && pkOnly j r
theorem pkOnly_ok : ∀ {j : Nat} {pk : List Kd}, pkOnly j pk = true → ∀ (i : Nat) k, i ≠ j → pk[i]? = some k → k = .frz
  | j, [], _, i, k, _, e => by simp at e
  | 0, x :: r, h, i, k, hi, e => by
    cases i with
    | zero => exact absurd rfl hi
    | succ i =>
      rw [List.getElem?_cons_succ] at e
      have h : (r.all fun k => decide (k = .frz)) = true := h
      rw [List.all_eq_true] at h
      exact of_decide_eq_true (h k (List.mem_of_getElem? e))
  | j + 1, x :: r, h, i, k, hi, e => by
    unfold pkOnly at h
    rw [Bool.and_eq_true] at h
    cases i with
    | zero => simp at e; subst e; exact of_decide_eq_true h.1
    | succ i => rw [List.getElem?_cons_succ] at e; exact pkOnly_ok h.2 i k (fun z => hi (by rw [z])) e
/-! ### range(i, j, -1) -/
def dnL (hi : Int) (n : Nat) : List PyData := (List.range n).map fun (k : Nat) => PyData.int (hi + (k : Int) * (-1))
theorem dnL_get {hi : Int} {n i : Nat} {d : PyData} (h : (dnL hi n)[i]? = some d) : d = .int (hi + (i : Int) * (-1)) := by
  unfold dnL at h
  rw [List.getElem?_map] at h
  by_cases hi : i < n
  · rw [List.getElem?_range hi] at h
    simpa using h.symm
  · rw [List.getElem?_eq_none (by simpa using hi)] at h
    cases h
def rg3 : List PyData → Option (List PyData)
  | [.int i, .int j, .int c] => if rng62 i && rng62 j && decide (c = -1) then some (dnL i (i - j).toNat) else none
  | _ => none
theorem id_range3 {tg : Expr} {p : Pos} {m : M (List Opd)} (hg : Gl X "range") (hm : X.mg "range" = none) (ha : AoD X ks ps [a, b, c] m) (hs : starEach [a, b, c] X.env = (false, eval a X.env) :: starEach [b, c] X.env := by rfl)
    (hpl : (backTo pos (starEach [b, c] X.env)).any (·.1) = false := by rfl) : ID X ks ps tg (.Call (.Name "range" p) [a, b, c] [] pos) (mRng rg3 m) :=
  PI.imp (pi_range3 hg hm ha hs hpl) fun σ H R q => by
    obtain ⟨G, F, env, ds, env', I, hm, q⟩ := q
    obtain ⟨os, e1, h1, h2⟩ := bnd_some hm
    obtain ⟨h2, rfl⟩ := lft_some h2
    split at h2
    · cases h2
    · rename_i dv hv
      refine ⟨G, F, env, os, _, I, h1, fun vs F' H' S J r => ?_⟩
      have ra := HoldsA.vals r hv
      unfold rg3 at h2
      split at h2
      · split at h2
        · rename_i i j k hb
          cases h2
          unfold rng62 at hb
          simp only [Bool.and_eq_true, decide_eq_true_eq] at hb
          obtain ⟨⟨⟨a1, a2⟩, a3, a4⟩, rfl⟩ := hb
          obtain ⟨x, y, z, rfl, r1, r2, r3⟩ := repA3 ra
          simp only [Rep] at r1 r2 r3
          subst r1; subst r2; subst r3
          refine ⟨_, _, _, _, rfl, RgC.neg a1 a2 a3 a4, q _ F' H' _ _ S J (by rw [show (dnL i (i - j).toNat).length = (i - j).toNat by simp [dnL]]; exact walk_rangeC) (fun _ _ _ => trivial) (fun G2 l F2 H2 x H3 d hd _ S2 _ y => ?_)⟩
          obtain ⟨rfl, rfl⟩ := y
          rw [dnL_get hd]
          exact ⟨.refl _, rep_int⟩
        · cases h2
      · cases h2
end
end DL

/-! DLR: tuples turned about: t[::-1], t[k::-1]. -/
namespace HT
open PySem PySem.Spec PyProof.Rows L2
section
variable {prog : Program} {w : World} {A : Around} {E : Value → Shared → Prop} {s : Shared}
def rIx (n : Nat) : Option Int → Nat
  | none => n
  | some v => if v < 0 then (v + (n : Int) + 1).toNat else min (v.toNat + 1) n
theorem rIx_le (n : Nat) (o : Option Int) : rIx n o ≤ n := by
  unfold rIx
  cases o with
  | none => exact Nat.le_refl _
  | some v => dsimp only; split <;> omega
theorem adjust_rev (lo : Option Int) (n : Nat) : Builtin.Slice.sliceAdjust lo none (-1) (n : Int) = (((rIx n lo : Nat) : Int) - 1, -1) := by
  unfold Builtin.Slice.sliceAdjust rIx
  have h1 : ((-1 : Int) < 0) := by omega
  simp only [h1, if_true]
  cases lo with
  | none => rfl
  | some v =>
    refine Prod.ext ?_ rfl
    dsimp only
    split <;> omega
theorem places_rev (k : Nat) : Builtin.Slice.slicePlaces ((k : Int) - 1) (-1) (-1) = k := by
  unfold Builtin.Slice.slicePlaces
  have h1 : ¬ (-1 : Int) > 0 := by omega
  simp only [h1, if_false, Int.neg_neg, Int.ediv_one]
  split <;> omega
theorem sliceApplied_rev {sl : Addr} {vl : Value} {lo : Option Int} {t : Tok} {n : Nat} {Q : Int × Int × Nat → Shared → Prop} (hs : s.heap.IsSliceOf sl vl .none (.int (-1) t)) (pl : IsPart vl lo)
    (h : Q (((rIx n lo : Nat) : Int) - 1, -1, rIx n lo) s) : wpAny (model prog w) A (Builtin.Slice.sliceApplied (.ref sl) (pure (n : Int))) Q E s := by
  obtain ⟨os, hos, hcs, hds⟩ := id hs
  unfold Builtin.Slice.sliceApplied Builtin.Slice.sliceFields
  refine wpAny_bind (wpAny_bind (wpAny_field hos hds (x := vl) rfl (wpAny_bind (wpAny_field hos hds (x := .none) rfl (wpAny_bind (wpAny_field hos hds (x := .int (-1) t) rfl (wpAny_pure ?_)))))))
  refine wpAny_bind (slicePart_ (.int (-1) t) ?_)
  show wpAny _ _ (if ((-1 : Int) == 0) = true then _ else _) _ _ s
  rw [if_neg (by decide)]
  refine wpAny_bind (slicePart_ pl (wpAny_bind (slicePart_ .none (wpAny_bind (wpAny_pure ?_)))))
  show wpAny _ _ (match Builtin.Slice.sliceAdjust lo none (-1) (n : Int) with | (lo, hi) => pure (lo, (-1 : Int), Builtin.Slice.slicePlaces lo hi (-1))) _ _ s
  rw [adjust_rev lo n]
  show wpAny _ _ (pure (((rIx n lo : Nat) : Int) - 1, (-1 : Int), Builtin.Slice.slicePlaces (((rIx n lo : Nat) : Int) - 1) (-1) (-1))) _ _ s
  rw [places_rev]
  exact wpAny_pure h
theorem fm_map {α β : Type} {f : α → Option β} {g : α → β} : ∀ {l : List α}, (∀ m ∈ l, f m = some (g m)) → l.filterMap f = l.map g
  | [], _ => rfl
  | x :: r, h => by rw [List.filterMap_cons_some (h x List.mem_cons_self), List.map_cons, fm_map fun m hm => h m (List.mem_cons_of_mem _ hm)]
theorem pick_rev (xs : Array Value) (k : Nat) (hk : k ≤ xs.size) : ((List.range k).filterMap fun (m : Nat) => xs[(((k : Int) - 1) + (m : Int) * (-1)).toNat]?).toArray = ((xs.toList.take k).reverse).toArray := by
  congr 1
  refine List.ext_getElem? fun i => ?_
  have e : ((List.range k).filterMap fun (m : Nat) => xs[(((k : Int) - 1) + (m : Int) * (-1)).toNat]?) = (List.range k).map fun m => xs.toList.getD (k - 1 - m) .none := by
    refine fm_map fun m hm => ?_
    have hm := List.mem_range.mp hm
    have : (((k : Int) - 1) + (m : Int) * (-1)).toNat = k - 1 - m := by omega
    rw [this]
    have hlt : k - 1 - m < xs.size := by omega
    rw [Array.getElem?_eq_getElem hlt]
    congr 1
    rw [List.getD_eq_getElem?_getD, List.getElem?_eq_getElem (by simpa using hlt)]
    simp
  rw [e, List.getElem?_map]
  by_cases hi : i < k
  · rw [List.getElem?_range hi, List.getElem?_reverse (by simp; omega), List.length_take, List.getElem?_take]
    have h1 : min k xs.toList.length - 1 - i < k := by omega
    rw [if_pos h1, Option.map_some, List.getD_eq_getElem?_getD]
    have h2 : min k xs.toList.length - 1 - i = k - 1 - i := by simp; omega
    rw [h2, List.getElem?_eq_getElem (by simp; omega)]
    rfl
  · rw [List.getElem?_eq_none (by simp; omega), List.getElem?_eq_none (by simp; omega)]
    rfl
theorem getItem_tuple_rev {t sl : Addr} {items : Array Value} {vl : Value} {lo : Option Int} {tk : Tok} {Q : Value → Shared → Prop} (ht : IsTup s.heap t items) (hs : s.heap.IsSliceOf sl vl .none (.int (-1) tk)) (pl : IsPart vl lo)
    (h : Q (.ref s.heap.objs.size) { s with heap := s.heap.push { cls := .type "tuple", data := .seq ((items.toList.take (rIx items.size lo)).reverse).toArray } })
    (hsz : items.size ≤ sizeLine) : wpAny (model prog w) A (getItem (.ref t) (.ref sl)) Q E s := by
  have htake : sizeOk (.seq ((items.toList.take (rIx items.size lo)).reverse).toArray) := by
    show ((items.toList.take (rIx items.size lo)).reverse).toArray.size ≤ sizeLine
    rw [List.size_toArray, List.length_reverse, List.length_take, Array.length_toList]
    omega
  obtain ⟨os, hos, hcs, hds⟩ := id hs
  have hTs : s.TypeIs (.ref sl) "slice" := ⟨os, hos, hcs⟩
  unfold getItem
  try with_reducible refine wpAny_holding ?_
  first | refine wpAny_bind (wpAny_pure ?_) | skip
  refine wpAny_bind (wpAny_sequenceKey ht.typeIs (by decide) ?_)
  refine wpAny_bind (wpAny_callSpecial?_slot (name := Str.ofString "__getitem__") ht.typeIs PyProof.Rows.slot_tuple_getitem
    (wpAny_call_entry PyProof.Rows.slot_tuple_getitem ht.typeIs entry_tuple_getitem ?_ (args_tuple_getitem _ _)))
  show wpAny _ _ (Builtin.Tuple.tupleItemsOf (.ref t) >>= _) _ _ s
  refine wpAny_bind (tupleItemsOf_ ht ?_)
  refine wpAny_bind (wpAny_typeOf hTs ?_)
  rw [if_pos (by decide)]
  refine wpAny_bind (sliceApplied_rev hs pl ?_)
  have hno : ¬ (((((rIx items.size lo : Nat) : Int) - 1) == 0 && (-1 : Int) == 1 && (rIx items.size lo) == items.size) = true) := by
    intro q
    rw [Bool.and_eq_true, Bool.and_eq_true] at q
    have q1 : (-1 : Int) = 1 := eq_of_beq q.1.2
    omega
  show wpAny _ _ (if ((((rIx items.size lo : Nat) : Int) - 1) == 0 && (-1 : Int) == 1 && (rIx items.size lo) == items.size) = true then _ else _) _ _ s
  rw [if_neg hno, pick_rev items _ (rIx_le _ _)]
  first
    | exact wpAny_bind (m := Builtin.Tuple.tupleExact _) (wpAny_newObj_type (wpAny_pure ⟨_, rfl, wpAny_pure h⟩) htake)
    | exact wpAny_bind (m := Builtin.Tuple.tupleExact _) (wpAny_newObj_type (wpAny_bind (wpAny_pure (wpAny_pure ⟨_, rfl, wpAny_pure h⟩))) htake)
    | exact wpAny_bind (wpAny_bind (m := Builtin.Tuple.tupleExact _) (wpAny_newObj_type (wpAny_pure (wpAny_pure ⟨_, rfl, wpAny_pure h⟩)) htake))
    | exact wpAny_bind (wpAny_bind (m := Builtin.Tuple.tupleExact _) (wpAny_newObj_type (wpAny_pure ⟨_, rfl, wpAny_pure h⟩) htake))
end
end HT
namespace DL
open PySem PySem.Spec PyProof.Rows L2
section
variable {rk : Kd} {X : Cx} {ks : List Kd} {ps : List (Nat × V)} {a b c e o : Expr} {es : List Expr} {pos pos' : Pos}
/-- t[lo::-1] of a tuple -/
def tRevT (K : PySem.W.Frag) (te : TE) (tl : L2.TO) : TE := fun σ H Q => te σ H fun x H1 => tl σ H1 fun lo H2 => ∃ a xs, x = .ref a ∧ SqT K H2 a xs ∧ ∀ p, H2 p = none → Q (.ref p) (upd H2 p (.tup ((xs.take (HT.rIx xs.length lo)).reverse)))
theorem pe_revT {e : Expr} {lo : Option Expr} {te : TE} {tl : L2.TO} {k : Nat} {p1 p2 p3 pos : Pos} (he : PE X e te) (hl : PO X lo tl) : PE X (.Subscript e (.Slice lo none (some (.UnaryOp .USub (.Constant (.int 1) k p1) p2)) p3) pos) (tRevT X.K te tl) := by
  refine ⟨fun pins s σ H Q I h => ?_⟩
  refine Subscript_ (thn (he.run pins s σ H _ I h) fun v s1 ⟨x, H1, I1, r1, q1⟩ => ?_)
  have hst : PO X (some (.UnaryOp .USub (.Constant (.int 1) k p1) p2)) (tPart (tUn (rU fun i => .int (-i)) (tC (.int 1)))) := po_some (pe_un un_neg pe_int)
  refine wpAny_Slice (thn (hl.run pins s1 σ H1 _ I1 q1) fun vl s2 ⟨l, H2, I2, pl, q2⟩ => ?_)
  refine thn (po_none.run pins s2 σ H2 (fun o H3 => o = none ∧ H3 = H2) I2 ⟨rfl, rfl⟩) fun vu s3 ⟨u, H3, I3, pu, eu, e3⟩ => ?_
  subst eu e3
  refine thn (hst.run pins s3 σ H3 (fun o H4 => o = some (-1) ∧ H4 = H3) I3 ⟨1, rfl, -1, rfl, rfl, rfl⟩) fun vs s4 ⟨o, H4, I4, ps, eo, e4⟩ => ?_
  subst eo e4
  obtain ⟨a, xs, ex, hx, q⟩ := q2
  subst ex
  cases r1
  cases pu
  cases ps with
  | int _ tk =>
    have I5 : L2.Inv X pins σ H4 { s4 with heap := s4.heap.push { cls := .type "slice", data := .fields #[vl, .none, .int (-1) tk] } } := I4.kept (t' := s4.toks) fun b ob q => Heap.get?_push_of_some _ q
    obtain ⟨its, r, ht, hz⟩ := I5.tuple hx
    have hlen := r.length
    have hsz : its.toArray.size = xs.length := by rw [List.size_toArray]; exact hlen.symm
    show wpAny (model X.prog X.w) X.A (subscriptTail e (.Slice lo none (some (.UnaryOp .USub (.Constant (.int 1) k p1) p2)) p3) (.ref a) (.ref s4.heap.objs.size)) (EP X pins σ Q) X.xe { s4 with heap := s4.heap.push { cls := .type "slice", data := .fields #[vl, .none, .int (-1) tk] } }
    refine tail_any (ops := [.ref a, .ref s4.heap.objs.size]) ht.typeIs (PyProof.Rows.slot_tuple_getitem.lookup) ?_ (by with_unfolding_all rfl)
    refine HT.getItem_tuple_rev ht (Heap.IsSliceOf.new _ vl .none (.int (-1) tk)) pl ?_ (by rw [hsz]; exact hz)
    rw [hsz]
    refine ⟨.ref _, _, I5.laid (t' := s4.toks) (o := .tup ((xs.take (HT.rIx xs.length l)).reverse)) (fun b ob q => Heap.get?_push_of_some _ q) (Nat.le_refl _) ?_, rfl, q _ (I5.hok.fresh (Nat.le_refl _))⟩
    refine ⟨by rw [List.length_reverse, List.length_take]; omega, _, (r.take _).reverse, IsTup.new _ _⟩
def revTD (lo : Option Int) : PyData → Option PyData
  | .tuple ds => some (.tuple ((ds.take (HT.rIx ds.length lo)).reverse))
  | _ => none
def mRevT (m : M Opd) (l : M (Option Int)) : M PyData := bnd m fun o => bnd l fun lo => rs1 (revTD lo) o
theorem ed_revT {lo : Option Expr} {ma : M Opd} {l : M (Option Int)} {k : Nat} {p1 p2 p3 : Pos} (ha : RD X ks ps a ma) (hl : PartD X ks ps lo l) : ED X ks ps (.Subscript a (.Slice lo none (some (.UnaryOp .USub (.Constant (.int 1) k p1) p2)) p3) pos) (mRevT ma l) :=
  PE.imp (pe_revT ha hl) fun σ H Q q => by
    obtain ⟨G, F, env, d, env', I, hm, q⟩ := q
    obtain ⟨ox, e1, h1, h2⟩ := bnd_some hm
    obtain ⟨l1, e2, h3, h4⟩ := bnd_some h2
    obtain ⟨rfl, dx, g1, g3, gi⟩ := rs1_some h4
    refine ⟨G, F, env, ox, e1, I, h1, fun v F1 H1 S1 I1 r1 => ⟨G, F1, e1, l1, _, I1, h3, fun F2 H2 S2 I2 => ?_⟩⟩
    have r2 := HoldsO.rep I2 (r1.stp S2) g1
    unfold revTD at g3
    split at g3
    · cases g3
      rename_i ds
      simp only [Rep] at r2
      obtain ⟨a, xs, rfl, t1, a1⟩ := r2
      refine ⟨a, xs, rfl, t1.sq, fun p hp => ?_⟩
      have sm := same_upd (o := .tup ((xs.take (HT.rIx xs.length l1)).reverse)) hp
      refine q _ F2 _ ((S1.trans S2).trans (.same sm)) (I2.same sm) (ifown gi ?_)
      simp only [Rep]
      refine ⟨p, _, rfl, .inl upd_same, ?_⟩
      rw [a1.length]
      exact RepA.kp (Same.kp sm) (RepA.reverse (a1.take _))
    · cases g3
end
end DL

/-! DLS: mirrors worked out. -/
namespace DL
open PySem PySem.Spec PyProof.Rows L2

/-! ### the words of the mirrors, applied -/
section
variable {α β : Type} {e : Ev}
@[simp] theorem ret_ap {a : α} : ret a e = some (a, e) := rfl
@[simp] theorem bnd_ap {m : M α} {f : α → M β} : bnd m f e = (m e).bind fun p => f p.1 p.2 := by
  unfold bnd
  cases m e <;> rfl
@[simp] theorem lft_ap {o : Option α} : lft o e = o.map fun a => (a, e) := by cases o <;> rfl
@[simp] theorem mVal_ap {m : M PyData} : mVal m e = (m e).map fun p => (Opd.val p.1, p.2) := by
  unfold mVal bnd
  cases m e <;> rfl
@[simp] theorem mVar_ap {i : Nat} : mVar i e = (e[i]?).join.map fun d => (d, e) := by
  unfold mVar
  cases h : e[i]? with
  | none => rfl
  | some o => cases o <;> rfl
@[simp] theorem mSlot_ap {i : Nat} : mSlot i e = (e[i]?).join.map fun _ => (Opd.slot i, e) := by
  unfold mSlot
  cases h : e[i]? with
  | none => rfl
  | some o => cases o <;> rfl
@[simp] theorem mTake_ap {i : Nat} : mTake i e = (e[i]?).join.map fun d => (d, e.set i none) := by
  unfold mTake
  cases h : e[i]? with
  | none => rfl
  | some o => cases o <;> rfl
@[simp] theorem mA0_ap : mA0 e = some ([], e) := rfl
@[simp] theorem mA_ap {m : M Opd} {r : M (List Opd)} : mA m r e = (m e).bind fun p => (r p.2).map fun q => (p.1 :: q.1, q.2) := by
  unfold mA bnd
  cases m e with
  | none => rfl
  | some p =>
    obtain ⟨o, e1⟩ := p
    dsimp only [Option.bind_some]
    cases r e1 <;> rfl
@[simp] theorem getO_val {d : PyData} : (Opd.val d).get e = some d := rfl
@[simp] theorem getO_slot {i : Nat} : (Opd.slot i).get e = (e[i]?).join := by
  show (match e[i]? with | some (some d) => some d | _ => none) = _
  cases h : e[i]? with
  | none => rfl
  | some o => cases o <;> rfl
@[simp] theorem own_val {d : PyData} : (Opd.val d).own = false := rfl
@[simp] theorem own_slot {i : Nat} : (Opd.slot i).own = true := rfl
@[simp] theorem getAll_nil : getAll [] e = some [] := rfl
@[simp] theorem getAll_cons {o : Opd} {r : List Opd} : getAll (o :: r) e = (o.get e).bind fun d => (getAll r e).map fun ds => d :: ds := by
  conv => lhs; unfold getAll
  cases o.get e with
  | none => rfl
  | some d => cases h : getAll r e <;> simp [h]
@[simp] theorem allVal_nil : allVal [] = some [] := rfl
@[simp] theorem allVal_val {d : PyData} {r : List Opd} : allVal (.val d :: r) = (allVal r).map fun ds => d :: ds := by
  conv => lhs; unfold allVal
  cases allVal r <;> rfl
/-- what comes of slots is to hang on nothing -/
def keepI (b : Bool) (r : PyData) (e : Ev) : Option (PyData × Ev) := if b && !imm r then none else some (r, e)
@[simp] theorem keepI_f {r : PyData} : keepI false r e = some (r, e) := rfl
@[simp] theorem keepI_t {r : PyData} : keepI true r e = if imm r then some (r, e) else none := by
  unfold keepI
  cases imm r <;> rfl
@[simp] theorem rs1_ap {g : PyData → Option PyData} {o : Opd} : rs1 g o e = (o.get e).bind fun d => (g d).bind fun r => keepI o.own r e := by
  unfold rs1
  cases o.get e with
  | none => rfl
  | some d => cases h : g d <;> simp [h, keepI]
@[simp] theorem rs2_ap {g : PyData → PyData → Option PyData} {o p : Opd} : rs2 g o p e = (o.get e).bind fun d => (p.get e).bind fun d' => (g d d').bind fun r => keepI (o.own || p.own) r e := by
  unfold rs2
  cases o.get e with
  | none => rfl
  | some d =>
    cases p.get e with
    | none => rfl
    | some d' => cases h : g d d' <;> simp [h, keepI]
@[simp] theorem rsN_ap {g : List PyData → Option PyData} {os : List Opd} : rsN g os e = (getAll os e).bind fun ds => (g ds).bind fun r => keepI (os.any Opd.own) r e := by
  unfold rsN
  cases getAll os e with
  | none => rfl
  | some ds => cases h : g ds <;> simp [h, keepI]
@[simp] theorem mBin_ap {g : PyData → PyData → Option PyData} {ma mb : M Opd} : mBin g ma mb e = (ma e).bind fun p => (mb p.2).bind fun q => rs2 g p.1 q.1 q.2 := by simp [mBin]
@[simp] theorem mUn_ap {g : PyData → Option PyData} {ma : M Opd} : mUn g ma e = (ma e).bind fun p => rs1 g p.1 p.2 := by simp [mUn]
@[simp] theorem mCallB_ap {g : List PyData → Option PyData} {ma : M (List Opd)} : mCallB g ma e = (ma e).bind fun p => rsN g p.1 p.2 := by simp [mCallB]
@[simp] theorem mTest_ap {m : M PyData} : mTest m e = (m e).bind fun p => (bOf p.1).map fun b => (b, p.2) := by simp [mTest]
@[simp] theorem bOf_bool {b : Bool} : bOf (.bool b) = some b := rfl
@[simp] theorem mNot_ap {m : M Bool} : mNot m e = (m e).map fun p => (!p.1, p.2) := by
  unfold mNot bnd
  cases m e <;> rfl
@[simp] theorem mAnd_ap {m n : M Bool} : mAnd m n e = (m e).bind fun p => if p.1 = true then n p.2 else some (false, p.2) := by
  unfold mAnd bnd
  cases m e with
  | none => rfl
  | some p => obtain ⟨b, e1⟩ := p; cases b <;> rfl
@[simp] theorem mOr_ap {m n : M Bool} : mOr m n e = (m e).bind fun p => if p.1 = true then some (true, p.2) else n p.2 := by
  unfold mOr bnd
  cases m e with
  | none => rfl
  | some p => obtain ⟨b, e1⟩ := p; cases b <;> rfl
@[simp] theorem mAndV_ap {m n : M PyData} : mAndV m n e = (m e).bind fun p => (bOf p.1).bind fun b => if b = true then n p.2 else some (.bool false, p.2) := by
  unfold mAndV mTest bnd
  cases m e with
  | none => rfl
  | some p =>
    obtain ⟨d, e1⟩ := p
    simp only [Option.bind_some]
    cases h : bOf d with
    | none => simp [h]
    | some b => cases b <;> simp [h]
@[simp] theorem mOrV_ap {m n : M PyData} : mOrV m n e = (m e).bind fun p => (bOf p.1).bind fun b => if b = true then some (.bool true, p.2) else n p.2 := by
  unfold mOrV mTest bnd
  cases m e with
  | none => rfl
  | some p =>
    obtain ⟨d, e1⟩ := p
    simp only [Option.bind_some]
    cases h : bOf d with
    | none => simp [h]
    | some b => cases b <;> simp [h]
@[simp] theorem mNotV_ap {m : M PyData} : mNotV m e = (m e).bind fun p => (bOf p.1).map fun b => (.bool (!b), p.2) := by
  unfold mNotV mTest bnd
  cases m e with
  | none => rfl
  | some p =>
    obtain ⟨d, e1⟩ := p
    simp only [Option.bind_some]
    cases h : bOf d <;> simp [h]
@[simp] theorem mIf_ap {c : M Bool} {m n : M α} : mIf c m n e = (c e).bind fun p => if p.1 = true then m p.2 else n p.2 := by
  unfold mIf bnd
  cases c e with
  | none => rfl
  | some p => obtain ⟨b, e1⟩ := p; cases b <;> rfl
@[simp] theorem mTup_ap {ma : M (List Opd)} : mTup ma e = (ma e).bind fun p => (allVal p.1).bind fun ds => if ds.length ≤ 1000 then some (.tuple ds, p.2) else none := by
  unfold mTup bnd
  cases ma e with
  | none => rfl
  | some p =>
    obtain ⟨os, e1⟩ := p
    simp only [Option.bind_some]
    cases h : allVal os with
    | none => rfl
    | some ds => by_cases hl : ds.length ≤ 1000 <;> simp [h, hl]
@[simp] theorem mLst_ap {ma : M (List Opd)} : mLst ma e = (ma e).bind fun p => (allVal p.1).bind fun ds => if ds.length ≤ 1000 then some (.list ds, p.2) else none := by
  unfold mLst bnd
  cases ma e with
  | none => rfl
  | some p =>
    obtain ⟨os, e1⟩ := p
    simp only [Option.bind_some]
    cases h : allVal os with
    | none => rfl
    | some ds => by_cases hl : ds.length ≤ 1000 <;> simp [h, hl]
@[simp] theorem mChain_ap {f g : PyData → PyData → Option PyData} {ma mb mc : M Opd} : mChain f g ma mb mc e = (ma e).bind fun p => (mb p.2).bind fun q => (rs2 f p.1 q.1 q.2).bind fun r => (bOf r.1).bind fun k => if k = true then (mc r.2).bind fun t => rs2 g q.1 t.1 t.2 else some (.bool false, r.2) := by
  unfold mChain
  simp only [bnd_ap, lft_ap]
  cases ma e with
  | none => rfl
  | some p =>
    simp only [Option.bind_some]
    cases mb p.2 with
    | none => rfl
    | some q =>
      simp only [Option.bind_some]
      cases h : rs2 f p.1 q.1 q.2 with
      | none => rfl
      | some r =>
        simp only [Option.bind_some]
        cases h2 : bOf r.1 with
        | none => rfl
        | some k => cases k <;> simp
@[simp] theorem rsK_ap {rk : Kd} {g : List PyData → Option PyData} {os : List Opd} : rsK rk g os e = (getAll os e).bind fun ds => (g ds).bind fun r => if os.any Opd.own && !immK rk r then none else some (r, e) := by
  unfold rsK
  cases getAll os e with
  | none => rfl
  | some ds => cases h : g ds <;> simp [h]
@[simp] theorem mCall_ap {rk : Kd} {n : Nat} {mf : List PyData → Option (PyData × List PyData)} {ma : M (List Opd)} : mCall rk n mf ma e = (ma e).bind fun p => rsK rk (fun ds => if ds.length = n then (mf ds).map (·.1) else none) p.1 p.2 := by simp [mCall]

/-! ### statements -/
@[simp] theorem sSeq_ap {m n : B} : sSeq m n e = match m e with
  | some (.nx e') => n e'
  | r => r := rfl
@[simp] theorem sNx_ap : sNx e = some (.nx e) := rfl
@[simp] theorem sBk_ap : sBk e = some (.bk e) := rfl
@[simp] theorem sCt_ap : sCt e = some (.ct e) := rfl
@[simp] theorem sExpr_ap {m : M PyData} : sExpr m e = (m e).map fun p => .nx p.2 := by
  unfold sExpr
  cases m e <;> rfl
@[simp] theorem sRet_ap {m : M PyData} : sRet m e = (m e).map fun p => .rt p.1 p.2 := by
  unfold sRet
  cases m e <;> rfl
@[simp] theorem sIf_ap {c : M Bool} {m n : B} : sIf c m n e = (c e).bind fun p => if p.1 = true then m p.2 else n p.2 := by
  unfold sIf
  cases c e with
  | none => rfl
  | some p => obtain ⟨b, e1⟩ := p; cases b <;> rfl
@[simp] theorem sAsg_ap {m : M PyData} {g : St1} : sAsg m g e = (m e).bind fun p => (g p.1 p.2).map .nx := by
  unfold sAsg
  cases m e with
  | none => rfl
  | some p => obtain ⟨d, e1⟩ := p; simp only [Option.bind_some]; cases h : g d e1 <;> simp [h]
@[simp] theorem gNm_ap {i : Nat} {d : PyData} : gNm i d e = some (e.set i (some d)) := rfl
@[simp] theorem gNl_ap : gNl [] e = some e := rfl
@[simp] theorem gCn_ap {m : St1} {n : List PyData → Ev → Option Ev} {d : PyData} {r : List PyData} : gCn m n (d :: r) e = (m d e).bind fun e1 => n r e1 := by
  show (match m d e with | none => none | some e1 => n r e1) = _
  cases m d e <;> rfl
@[simp] theorem gTp_ap {n : Nat} {m : List PyData → Ev → Option Ev} {ds : List PyData} : gTp n m (.tuple ds) e = if ds.length = n then m ds e else none := rfl
@[simp] theorem sAug_ap {i : Nat} {g : PyData → PyData → Option PyData} {m : M PyData} : sAug i g m e = (e[i]?).join.bind fun x => (m e).bind fun p => (g x p.1).map fun z => .nx (p.2.set i (some z)) := by
  unfold sAug
  cases h : e[i]? with
  | none => rfl
  | some o =>
    cases o with
    | none => rfl
    | some x =>
      simp only [Option.join_some, Option.bind_some]
      cases h2 : m e with
      | none => rfl
      | some p =>
        obtain ⟨y, e1⟩ := p
        simp only [Option.bind_some]
        cases h3 : g x y <;> simp [h3]
@[simp] theorem mF0_ap : mF0 e = some ([], e) := rfl
@[simp] theorem mF_ap {m : M PyData} {r : M (List PyData)} : mF m r e = (m e).bind fun p => (r p.2).map fun q => (p.1 :: q.1, q.2) := by
  unfold mF bnd
  cases m e with
  | none => rfl
  | some p =>
    obtain ⟨o, e1⟩ := p
    dsimp only [Option.bind_some]
    cases r e1 <;> rfl
@[simp] theorem sParK_ap {is : List Nat} {m : M (List PyData)} : sParK is m e = (m e).map fun p => .nx (stoE is p.1 p.2) := by
  unfold sParK
  cases m e <;> rfl
@[simp] theorem stoE_nil {ds : List PyData} : stoE [] ds e = e := by cases ds <;> rfl
@[simp] theorem stoE_cons {i : Nat} {is : List Nat} {d : PyData} {ds : List PyData} : stoE (i :: is) (d :: ds) e = stoE is ds (e.set i (some d)) := rfl
@[simp] theorem mIt_ap {m : M PyData} : mIt m e = (m e).bind fun p => (itsOf p.1).map fun ds => (ds, p.2) := by simp [mIt]
@[simp] theorem itsOf_list {ds : List PyData} : itsOf (.list ds) = some ds := rfl
@[simp] theorem itsOf_tuple {ds : List PyData} : itsOf (.tuple ds) = some ds := rfl
@[simp] theorem sFor_ap {m : M (List PyData)} {g : St1} {b : B} : sFor m g b e = (m e).bind fun p => loopB g b p.1 p.2 := by
  unfold sFor
  cases m e <;> rfl
@[simp] theorem mRng_ap {g : List PyData → Option (List PyData)} {m : M (List Opd)} : mRng g m e = (m e).bind fun p => (allVal p.1).bind fun ds => (g ds).map fun l => (l, p.2) := by
  unfold mRng bnd
  cases m e with
  | none => rfl
  | some p =>
    obtain ⟨os, e1⟩ := p
    simp only [Option.bind_some]
    cases h : allVal os with
    | none => rfl
    | some ds => simp
@[simp] theorem mIsi_ap {c : String} {m : M Opd} : mIsi c m e = (m e).bind fun p => rs1 (fun d => if isiOk c then some (.bool (isiT (tyD d) c)) else none) p.1 p.2 := by simp [mIsi]
@[simp] theorem mYes_ap : mYes e = some (true, e) := rfl
@[simp] theorem mNoPart_ap : mNoPart e = some (none, e) := rfl
@[simp] theorem mPart_ap {m : M PyData} : mPart m e = (m e).bind fun p => (iOf p.1).map fun i => (i, p.2) := by simp [mPart]
@[simp] theorem iOf_int {i : Int} : iOf (.int i) = some (some i) := rfl
@[simp] theorem mSl_ap {m : M Opd} {l h : M (Option Int)} : mSl m l h e = (m e).bind fun p => (l p.2).bind fun q => (h q.2).bind fun r => rs1 (sliceD q.1 r.1) p.1 r.2 := by simp [mSl]
@[simp] theorem mSrcGet_ap {i : Nat} {k : SKey} : mSrcGet i k e = (srcAt i e).map fun s => (.int (k.get s), e) := by
  unfold mSrcGet
  cases srcAt i e <;> rfl
@[simp] theorem mSrcLen_ap {i : Nat} : mSrcLen i e = (srcAt i e).map fun s => (.int (s.1.length : Int), e) := by
  unfold mSrcLen
  cases srcAt i e <;> rfl
end

@[simp] theorem ite_some_pair {α β : Type} {c : Prop} [Decidable c] {a b : α} {e : β} : (if c then some (a, e) else some (b, e)) = some (if c then a else b, e) := by split <;> rfl
/-! ### operations on told data -/
section
variable {i j : Int} {xs ys : List PyData}
@[simp] theorem addD_i : addD (.int i) (.int j) = some (.int (i + j)) := rfl
@[simp] theorem addD_t : addD (.tuple xs) (.tuple ys) = if xs.length + ys.length ≤ sizeLine then some (.tuple (xs ++ ys)) else none := rfl
@[simp] theorem addD_l : addD (.list xs) (.list ys) = if xs.length + ys.length ≤ sizeLine then some (.list (xs ++ ys)) else none := rfl
@[simp] theorem iaddD_i : iaddD (.int i) (.int j) = some (.int (i + j)) := rfl
@[simp] theorem subD_i : subD (.int i) (.int j) = some (.int (i - j)) := rfl
@[simp] theorem mulD_i : mulD (.int i) (.int j) = if mulOk i j then some (.int (i * j)) else none := rfl
@[simp] theorem fdivD_i : fdivD (.int i) (.int j) = if j ≠ 0 ∧ j.natAbs < 1073741824 then some (.int (i.fdiv j)) else none := rfl
@[simp] theorem modD_i : modD (.int i) (.int j) = if j ≠ 0 then some (.int (i.fmod j)) else none := rfl
@[simp] theorem negD_i : negD (.int i) = some (.int (-i)) := rfl
@[simp] theorem ltD_i : ltD (.int i) (.int j) = some (.bool (decide (i < j))) := rfl
@[simp] theorem leD_i : leD (.int i) (.int j) = some (.bool (decide (i ≤ j))) := rfl
@[simp] theorem gtD_i : gtD (.int i) (.int j) = some (.bool (decide (j < i))) := rfl
@[simp] theorem geD_i : geD (.int i) (.int j) = some (.bool (decide (j ≤ i))) := rfl
@[simp] theorem lenD_l : lenD [.list xs] = some (.int xs.length) := rfl
@[simp] theorem lenD_t : lenD [.tuple xs] = some (.int xs.length) := rfl
@[simp] theorem absD_i : absD [.int i] = some (.int (if i < 0 then -i else i)) := rfl
@[simp] theorem intD_i : intD [.int i] = some (.int i) := rfl
@[simp] theorem intD_b {b : Bool} : intD [.bool b] = some (.int (if b then 1 else 0)) := rfl
@[simp] theorem max2D_i : max2D [.int i, .int j] = some (.int (if j > i then j else i)) := rfl
@[simp] theorem min2D_i : min2D [.int i, .int j] = some (.int (if j < i then j else i)) := rfl
@[simp] theorem tupleD_l : tupleD [.list xs] = some (.tuple xs) := rfl
@[simp] theorem tupleD_t : tupleD [.tuple xs] = some (.tuple xs) := rfl
@[simp] theorem listD_l : listD [.list xs] = some (.list xs) := rfl
@[simp] theorem listD_t : listD [.tuple xs] = some (.list xs) := rfl
@[simp] theorem itemD_l : itemD (.list xs) (.int i) = atI xs i := rfl
@[simp] theorem itemD_t : itemD (.tuple xs) (.int i) = atI xs i := rfl
theorem atI_zero {x : PyData} : atI (x :: xs) 0 = some x := atI_nat (j := 0) rfl
theorem atI_one {x y : PyData} : atI (x :: y :: xs) 1 = some y := atI_nat (j := 1) rfl
theorem atI_two {x y z : PyData} : atI (x :: y :: z :: xs) 2 = some z := atI_nat (j := 2) rfl
theorem atI_three {x y z t : PyData} : atI (x :: y :: z :: t :: xs) 3 = some t := atI_nat (j := 3) rfl
@[simp] theorem isD_b {a b : Bool} : isD (.bool a) (.bool b) = some (.bool (decide (a = b))) := rfl
@[simp] theorem isNotD_b {a b : Bool} : isNotD (.bool a) (.bool b) = some (.bool (!decide (a = b))) := rfl
@[simp] theorem revD_l : revD (.list xs) = some (.list xs.reverse) := rfl
@[simp] theorem imm_i : imm (.int i) = true := rfl
@[simp] theorem imm_b {b : Bool} : imm (.bool b) = true := rfl
@[simp] theorem imm_n : imm .none = true := rfl
@[simp] theorem imm_s {x : Str} : imm (.str x) = true := rfl
@[simp] theorem imm_t : imm (.tuple xs) = immA xs := rfl
@[simp] theorem immA_nil : immA [] = true := rfl
@[simp] theorem immA_cons {x : PyData} : immA (x :: xs) = (imm x && immA xs) := rfl
theorem shaped_i : SeqAt.shaped (.int i) = true := rfl
theorem shaped_b {b : Bool} : SeqAt.shaped (.bool b) = true := rfl
theorem shaped_n : SeqAt.shaped .none = true := rfl
@[simp] theorem eqD_i : eqD (.int i) (.int j) = some (.bool (decide (i = j))) := by
  show some (PyData.bool (PyData.eqv (.int i) (.int j))) = _
  unfold PyData.eqv
  congr 2
@[simp] theorem neD_i : neD (.int i) (.int j) = some (.bool (!decide (i = j))) := by
  show some (PyData.bool (!PyData.eqv (.int i) (.int j))) = _
  unfold PyData.eqv
  congr 2
end
/-! ### the source, worked out -/
abbrev Src := List Int × Int × Int × Int
theorem srcOf_dt (s : Src) : srcOf (srcDt s) = some s := by
  obtain ⟨a, b, c, d⟩ := s
  exact srcOf_srcD a b c d
/-- the cells are taken until what is left is 2 or more -/
def feed : List Int → Int → List Int × Int
  | [], l => ([], l)
  | c :: cs, l => if l < 2 then feed cs c else (c :: cs, l)
def pick1 (f : List Int × Int) (m t many : Int) : Int × Src :=
  if many < 2 ∨ 1 < f.2 then (f.2.fmod (max 1 many), (f.1.reverse, f.2.fdiv (max 1 many), m, t))
  else ((((((m + (t + 1) * 104729).fmod 998244353) * ((m + (t + 1) * 104729).fmod 998244353) + (t + 1) * 17).fmod 2147483647).fdiv 16).fmod many,
    (f.1.reverse, f.2, (((m + (t + 1) * 104729).fmod 998244353) * ((m + (t + 1) * 104729).fmod 998244353) + (t + 1) * 17).fmod 2147483647, t + 1))
def pickR (s : Src) (many : Int) : Int × Src := pick1 (if 1 < many then feed s.1.reverse s.2.1 else (s.1.reverse, s.2.1)) s.2.2.1 s.2.2.2 many
theorem pick1_lo (f : List Int × Int) (m t many : Int) : 0 ≤ (pick1 f m t many).1 := by
  unfold pick1
  split
  · exact Int.fmod_nonneg_of_pos _ (by omega)
  · exact Int.fmod_nonneg_of_pos _ (by omega)
theorem pick1_hi (f : List Int × Int) (m t many : Int) : (pick1 f m t many).1 < max 1 many := by
  unfold pick1
  split
  · exact Int.fmod_lt_of_pos _ (by omega)
  · exact Int.lt_of_lt_of_le (Int.fmod_lt_of_pos _ (b := many) (by omega)) (by omega)
theorem pickR_lo (s : Src) (many : Int) : 0 ≤ (pickR s many).1 := pick1_lo _ _ _ _
theorem pickR_hi (s : Src) (many : Int) : (pickR s many).1 < max 1 many := pick1_hi _ _ _ _
def mmSource : List PyData → Option (PyData × List PyData) := mDef .src [.frz] 3
  (sSeq (sAsg (ret (.int 11)) (gNm 1))
  (sSeq (sFor (mIt (mVar 0)) (gNm 2)
  (sAsg (mBin modD (mVal (mCallB intD (mA (mVal (mBin addD (mVal (mBin addD (mVal (mBin mulD (mVal (mVar 1)) (mVal (ret (.int 69069))))) (mVal (mBin mulD (mVal (mVar 2)) (mVal (ret (.int 31))))))) (mVal (ret (.int 5))))) mA0))) (mVal (ret (.int 2147483629)))) (gNm 1)))
  (sRet (mSrcNew (mUn revD (mVal (mComp (mIt (mVar 0)) (gNm 2) mYes (mCallB absD (mA (mVal (mVar 2)) mA0)) [2]))) (ret (.int 1)) (mVar 1) (ret (.int 0))))))
def mmPick : List PyData → Option (PyData × List PyData) := mDef .frz [.src, .frz] 4
  (sSeq (sWhile (srcFuel 0) (mAnd (mTest (mBin gtD (mVal (mVar 1)) (mVal (ret (.int 1))))) (mAnd (mTest (mBin ltD (mVal (mSrcGet 0 .left)) (mVal (ret (.int 2))))) (mTest (mBin gtD (mVal (mSrcLen 0)) (mVal (ret (.int 0)))))))
  (sSrcPut 0 .left (mSrcPop 0)))
  (sSeq (sAsg (mSrcGet 0 .left) (gNm 2))
  (sSeq (sIf (mOr (mTest (mBin ltD (mVal (mVar 1)) (mVal (ret (.int 2))))) (mTest (mBin gtD (mVal (mVar 2)) (mVal (ret (.int 1))))))
  (sSeq (sSrcPut 0 .left (mBin fdivD (mVal (mVar 2)) (mVal (mCallB max2D (mA (mVal (ret (.int 1))) (mA (mVal (mVar 1)) mA0))))))
  (sRet (mBin modD (mVal (mCallB intD (mA (mVal (mVar 2)) mA0))) (mVal (mCallB max2D (mA (mVal (ret (.int 1))) (mA (mVal (mVar 1)) mA0)))))))
  sNx)
  (sSeq (sSrcPut 0 .turn (mBin addD (mVal (mSrcGet 0 .turn)) (mVal (ret (.int 1)))))
  (sSeq (sAsg (mBin modD (mVal (mCallB intD (mA (mVal (mBin addD (mVal (mSrcGet 0 .mixed)) (mVal (mBin mulD (mVal (mSrcGet 0 .turn)) (mVal (ret (.int 104729))))))) mA0))) (mVal (ret (.int 998244353)))) (gNm 3))
  (sSeq (sAsg (mBin modD (mVal (mCallB intD (mA (mVal (mBin addD (mVal (mBin mulD (mVal (mVar 3)) (mVal (mVar 3)))) (mVal (mBin mulD (mVal (mSrcGet 0 .turn)) (mVal (ret (.int 17))))))) mA0))) (mVal (ret (.int 2147483647)))) (gNm 3))
  (sSeq (sSrcPut 0 .mixed (mVar 3))
  (sRet (mBin modD (mVal (mCallB intD (mA (mVal (mBin fdivD (mVal (mVar 3)) (mVal (ret (.int 16))))) mA0))) (mVal (mVar 1)))))))))))

@[simp] theorem sSrcPut_ap {i : Nat} {k : SKey} {m : M PyData} {e : Ev} : sSrcPut i k m e = (m e).bind fun p => (match p.1 with | .int x => some x | _ => none).bind fun x => (srcAt i p.2).map fun s => .nx (p.2.set i (some (srcDt (k.put x s)))) := by
  unfold sSrcPut
  cases m e with
  | none => rfl
  | some p =>
    obtain ⟨d, e1⟩ := p
    cases d <;> first | rfl | (simp only [Option.bind_some]; cases h : srcAt i e1 <;> simp [h])
theorem srcAt_0 {s : Src} {r : Ev} : srcAt 0 (some (srcDt s) :: r) = some s := srcOf_dt s
theorem sSrcPut_0 {k : SKey} {m : M PyData} {e e1 r : Ev} {x : Int} {s : Src} (h : m e = some (.int x, e1)) (h2 : e1 = some (srcDt s) :: r) : sSrcPut 0 k m e = some (.nx (some (srcDt (k.put x s)) :: r)) := by
  subst h2
  unfold sSrcPut
  rw [h]
  dsimp only
  rw [srcAt_0]
  rfl
theorem mSrcPop_0 {cs : List Int} {x l m t : Int} {r : Ev} : mSrcPop 0 (some (srcDt (cs ++ [x], l, m, t)) :: r) = some (.int x, some (srcDt (cs, l, m, t)) :: r) := by
  unfold mSrcPop
  rw [srcAt_0]
  simp [srcDt]
theorem smallI_of {i : Int} (h : i.natAbs < 2 ^ 64) : smallI i = true := by
  unfold smallI
  rw [Bool.and_eq_true, decide_eq_true_eq, decide_eq_true_eq]
  omega
theorem feed_loop {many : Int} {m t : Int} {r : Ev} (hm : 1 < many) : ∀ (cs : List Int) (l : Int), whileB (mAnd (mTest (mBin gtD (mVal (mVar 1)) (mVal (ret (.int 1))))) (mAnd (mTest (mBin ltD (mVal (mSrcGet 0 .left)) (mVal (ret (.int 2))))) (mTest (mBin gtD (mVal (mSrcLen 0)) (mVal (ret (.int 0)))))))
    (sSrcPut 0 .left (mSrcPop 0)) (cs.length + 1) (some (srcDt (cs.reverse, l, m, t)) :: some (.int many) :: r) = some (.nx (some (srcDt ((feed cs l).1.reverse, (feed cs l).2, m, t)) :: some (.int many) :: r))
  | [], l => by
    unfold whileB
    by_cases hl : l < 2 <;> simp [gtD, ltD, srcAt_0, SKey.get, hm, hl, feed]
  | c :: cs, l => by
    unfold whileB
    by_cases hl : l < 2
    · have ih := feed_loop (m := m) (t := t) (r := r) hm cs c
      simp [gtD, ltD, srcAt_0, SKey.get, SKey.put, hm, hl, mSrcPop_0, ih, feed]
    · simp [gtD, ltD, srcAt_0, SKey.get, hm, hl, feed]
theorem mulOk_r {i j : Int} (h : j.natAbs < 2 ^ 64) : mulOk i j = true := by
  unfold mulOk
  rw [smallI_of h]
  simp
theorem mulOk_l {i j : Int} (h : i.natAbs < 2 ^ 64) : mulOk i j = true := by
  unfold mulOk
  rw [smallI_of h]
  simp
theorem fmod_small (i : Int) {j : Int} (h : 0 < j) (h2 : j < 2 ^ 64) : (i.fmod j).natAbs < 2 ^ 64 := by
  have h3 := Int.fmod_nonneg_of_pos i h
  have h4 := Int.fmod_lt_of_pos i h
  omega
theorem max_eq (many : Int) : (if many > 1 then many else 1) = max 1 many := by omega
theorem pick_spec (s : Src) (many : Int) (hm : many.natAbs < 1073741824) : mmPick [srcDt s, .int many] = some (.int (pickR s many).1, [srcDt (pickR s many).2, .int many]) := by
  obtain ⟨cs, l, m, t⟩ := s
  unfold mmPick mDef
  have h1 : ∀ (cs : List Int) (l : Int), (∃ f : List Int × Int, (if 1 < many then feed cs.reverse l else (cs.reverse, l)) = f ∧ sWhile (srcFuel 0) (mAnd (mTest (mBin gtD (mVal (mVar 1)) (mVal (ret (.int 1))))) (mAnd (mTest (mBin ltD (mVal (mSrcGet 0 .left)) (mVal (ret (.int 2))))) (mTest (mBin gtD (mVal (mSrcLen 0)) (mVal (ret (.int 0)))))))
    (sSrcPut 0 .left (mSrcPop 0)) [some (srcDt (cs, l, m, t)), some (.int many), none, none] = some (.nx [some (srcDt (f.1.reverse, f.2, m, t)), some (.int many), none, none])) := by
    intro cs l
    refine ⟨_, rfl, ?_⟩
    unfold sWhile srcFuel
    rw [srcAt_0]
    dsimp only
    by_cases h : 1 < many
    · have := feed_loop (m := m) (t := t) (r := [none, none]) h cs.reverse l
      rw [List.reverse_reverse, List.length_reverse] at this
      rw [this, if_pos h]
    · rw [if_neg h, List.reverse_reverse]
      unfold whileB
      simp [gtD, h]
  obtain ⟨f, hf, h2⟩ := h1 cs l
  have e : pickR (cs, l, m, t) many = pick1 f m t many := by
    unfold pickR
    rw [hf]
  rw [e]
  simp only [List.map_cons, List.map_nil, List.length_cons, List.length_nil, List.cons_append, List.nil_append, List.replicate]
  rw [sSeq_ap, h2]
  dsimp only
  have ne : max 1 many ≠ 0 := by omega
  have sm : (max 1 many).natAbs < 1073741824 := by omega
  unfold pick1
  by_cases hc : many < 2 ∨ 1 < f.2
  · rw [if_pos hc]
    have hd : (many < 2) ∨ (1 < f.2) := hc
    simp [srcAt_0, SKey.get, SKey.put, max_eq, ne, sm, finB, outsOf, hd]
  · rw [if_neg hc]
    have n1 : ¬ many < 2 := fun z => hc (.inl z)
    have n2 : ¬ 1 < f.2 := fun z => hc (.inr z)
    have n0 : ¬ many = 0 := by omega
    have k1 : ∀ i, mulOk i 104729 = true := fun i => mulOk_r (by decide)
    have k2 : ∀ i, mulOk i 17 = true := fun i => mulOk_r (by decide)
    have k3 : ∀ i j : Int, mulOk (Int.fmod i 998244353) j = true := fun i j => mulOk_l (fmod_small i (by decide) (by decide))
    simp [srcAt_0, SKey.get, SKey.put, max_eq, ne, sm, finB, outsOf, n0, n1, n2, k1, k2, k3]

/-! ### loops and comprehensions, worked out -/
theorem loopB_inv {S : Type} {g : St1} {body : B} (R : S → Ev → Prop) (step : S → PyData → S) : ∀ {ds : List PyData} {s : S} {e : Ev}, R s e → (∀ d ∈ ds, ∀ s e, R s e → ∃ e1 e2, g d e = some e1 ∧ (body e1 = some (.nx e2) ∨ body e1 = some (.ct e2)) ∧ R (step s d) e2) →
    ∃ e', loopB g body ds e = some (.nx e') ∧ R (ds.foldl step s) e'
  | [], s, e, h, _ => ⟨e, rfl, h⟩
  | d :: ds, s, e, h, H => by
    obtain ⟨e1, e2, h1, h2, h3⟩ := H d List.mem_cons_self s e h
    obtain ⟨e', h4, h5⟩ := loopB_inv R step h3 fun d' hd => H d' (List.mem_cons_of_mem _ hd)
    refine ⟨e', ?_, h5⟩
    unfold loopB
    rw [h1]
    dsimp only
    rcases h2 with h2 | h2
    · rw [h2]; exact h4
    · rw [h2]; exact h4
/-- each turn keeps R, or gives r back -/
theorem loopB_all {g : St1} {body : B} (R : Ev → Prop) (P : PyData → Bool) (r : PyData) : ∀ {ds : List PyData} {e : Ev}, R e → (∀ d ∈ ds, ∀ e, R e → ∃ e1 e2, g d e = some e1 ∧ if P d = true then (body e1 = some (.nx e2) ∨ body e1 = some (.ct e2)) ∧ R e2 else body e1 = some (.rt r e2) ∧ R e2) →
    ∃ e', R e' ∧ loopB g body ds e = some (if ds.all P = true then .nx e' else .rt r e')
  | [], e, h, _ => ⟨e, h, rfl⟩
  | d :: ds, e, h, H => by
    obtain ⟨e1, e2, h1, h2⟩ := H d List.mem_cons_self e h
    unfold loopB
    rw [h1]
    dsimp only
    rw [List.all_cons]
    by_cases hp : P d = true
    · rw [if_pos hp] at h2
      obtain ⟨e', h4, h5⟩ := loopB_all R P r h2.2 fun d' hd => H d' (List.mem_cons_of_mem _ hd)
      refine ⟨e', h4, ?_⟩
      rw [hp, Bool.true_and]
      rcases h2.1 with h2 | h2
      · rw [h2]; exact h5
      · rw [h2]; exact h5
    · rw [if_neg hp] at h2
      refine ⟨e2, h2.2, ?_⟩
      rw [h2.1]
      rw [Bool.not_eq_true] at hp
      simp [hp]
theorem compL_fm {g : St1} {t : M Bool} {m : M PyData} {vs : List Nat} {e0 : Ev} (p : PyData → Bool) (f : PyData → PyData) : ∀ {ds : List PyData}, (∀ d ∈ ds, ∃ e1 e2, g d e0 = some e1 ∧ t e1 = some (p d, e2) ∧ (p d = false → wipeE e2 vs = e0) ∧ (p d = true → ∃ e3, m e2 = some (f d, e3) ∧ wipeE e3 vs = e0)) →
    compL g t m vs ds e0 = some ((ds.filter p).map f, e0)
  | [], _ => rfl
  | d :: ds, H => by
    obtain ⟨e1, e2, h1, h2, h3, h4⟩ := H d List.mem_cons_self
    have ih := compL_fm p f fun d' hd => H d' (List.mem_cons_of_mem _ hd)
    unfold compL
    rw [h1]
    dsimp only
    rw [h2]
    cases hp : p d with
    | false =>
      dsimp only
      rw [h3 hp, ih, List.filter_cons_of_neg (by rw [hp]; decide)]
    | true =>
      obtain ⟨e3, h5, h6⟩ := h4 hp
      dsimp only
      rw [h5]
      dsimp only
      rw [h6, ih, List.filter_cons_of_pos hp]
      rfl
theorem backE_get (e0 e : Ev) (i : Nat) : ∀ vs : List Nat, (backE e0 e vs)[i]? = if i ∈ vs ∧ i < e.length then some (e0.getD i none) else e[i]?
  | [] => by
    rw [if_neg (fun z => nomatch z.1)]
    rfl
  | v :: vs => by
    unfold backE
    rw [List.getElem?_set, backE_len, backE_get e0 e i vs]
    by_cases hv : v = i
    · subst hv
      by_cases hl : v < e.length
      · rw [if_pos rfl, if_pos hl, if_pos ⟨List.mem_cons_self, hl⟩]
      · rw [if_pos rfl, if_neg hl, if_neg (fun z => hl z.2), List.getElem?_eq_none_iff.mpr (Nat.le_of_not_lt hl)]
    · rw [if_neg hv]
      have : i ∈ v :: vs ↔ i ∈ vs := by
        rw [List.mem_cons]
        exact ⟨fun z => z.resolve_left (Ne.symm hv), .inr⟩
      simp only [this]
theorem wipeE_get (e : Ev) (i : Nat) : ∀ vs : List Nat, (wipeE e vs)[i]? = if i ∈ vs ∧ i < e.length then some none else e[i]?
  | [] => by
    rw [if_neg (fun z => nomatch z.1)]
    rfl
  | v :: vs => by
    unfold wipeE
    rw [List.getElem?_set, wipeE_len, wipeE_get e i vs]
    by_cases hv : v = i
    · subst hv
      by_cases hl : v < e.length
      · rw [if_pos rfl, if_pos hl, if_pos ⟨List.mem_cons_self, hl⟩]
      · rw [if_pos rfl, if_neg hl, if_neg (fun z => hl z.2), List.getElem?_eq_none_iff.mpr (Nat.le_of_not_lt hl)]
    · rw [if_neg hv]
      have : i ∈ v :: vs ↔ i ∈ vs := by
        rw [List.mem_cons]
        exact ⟨fun z => z.resolve_left (Ne.symm hv), .inr⟩
      simp only [this]
theorem backE_wipe (e : Ev) (vs : List Nat) : backE e (wipeE e vs) vs = e := by
  refine List.ext_getElem? fun i => ?_
  rw [backE_get, wipeE_get, wipeE_len]
  by_cases h : i ∈ vs ∧ i < e.length
  · rw [if_pos h, List.getD_eq_getElem?_getD, List.getElem?_eq_getElem h.2]
    rfl
  · rw [if_neg h, if_neg h]
theorem mComp_fm {it : M (List PyData)} {g : St1} {t : M Bool} {m : M PyData} {vs : List Nat} {e e1 : Ev} {ds : List PyData} (p : PyData → Bool) (f : PyData → PyData) (h : it e = some (ds, e1)) (hl : ds.length ≤ 1000000)
    (H : ∀ d ∈ ds, ∃ e2 e3, g d (wipeE e1 vs) = some e2 ∧ t e2 = some (p d, e3) ∧ (p d = false → wipeE e3 vs = wipeE e1 vs) ∧ (p d = true → ∃ e4, m e3 = some (f d, e4) ∧ wipeE e4 vs = wipeE e1 vs)) : mComp it g t m vs e = some (.list ((ds.filter p).map f), e1) := by
  unfold mComp
  rw [h]
  dsimp only
  rw [if_pos hl, compL_fm p f H]
  dsimp only
  rw [backE_wipe]
theorem mComp_m {it : M (List PyData)} {g : St1} {m : M PyData} {vs : List Nat} {e e1 : Ev} {ds : List PyData} (f : PyData → PyData) (h : it e = some (ds, e1)) (hl : ds.length ≤ 1000000)
    (H : ∀ d ∈ ds, ∃ e2 e4, g d (wipeE e1 vs) = some e2 ∧ m e2 = some (f d, e4) ∧ wipeE e4 vs = wipeE e1 vs) : mComp it g mYes m vs e = some (.list (ds.map f), e1) := by
  have := mComp_fm (it := it) (g := g) (t := mYes) (m := m) (vs := vs) (fun _ => true) f h hl fun d hd => by
    obtain ⟨e2, e4, h1, h2, h3⟩ := H d hd
    exact ⟨e2, e2, h1, rfl, (fun z => nomatch z), fun _ => ⟨e4, h2, h3⟩⟩
  rw [this, List.filter_eq_self.mpr fun _ _ => rfl]
/-- the script's source -/
def srcS (ns : List Int) : Src := ((ns.map fun i => if i < 0 then -i else i).reverse, 1, ns.foldl (fun m c => (m * 69069 + c * 31 + 5).fmod 2147483629) 11, 0)
theorem source_spec (ns : List Int) (hn : ns.length ≤ 63) : mmSource [.list (ns.map PyData.int)] = some (srcDt (srcS ns), [.list (ns.map PyData.int)]) := by
  have k1 : ∀ i, mulOk i 69069 = true := fun i => mulOk_r (by decide)
  have k2 : ∀ i, mulOk i 31 = true := fun i => mulOk_r (by decide)
  have loop : ∀ (ns : List Int) (m : Int) (S : PyData) (c : Option PyData), ∃ c', loopB (gNm 2) (sAsg (mBin modD (mVal (mCallB intD (mA (mVal (mBin addD (mVal (mBin addD (mVal (mBin mulD (mVal (mVar 1)) (mVal (ret (.int 69069))))) (mVal (mBin mulD (mVal (mVar 2)) (mVal (ret (.int 31))))))) (mVal (ret (.int 5))))) mA0))) (mVal (ret (.int 2147483629)))) (gNm 1))
      (ns.map PyData.int) [some S, some (.int m), c] = some (.nx [some S, some (.int (ns.foldl (fun m c => (m * 69069 + c * 31 + 5).fmod 2147483629) m)), c']) := by
    intro ns
    induction ns with
    | nil => exact fun m S c => ⟨c, rfl⟩
    | cons n ns ih =>
      intro m S c
      obtain ⟨c', h⟩ := ih ((m * 69069 + n * 31 + 5).fmod 2147483629) S (some (.int n))
      refine ⟨c', ?_⟩
      rw [List.map_cons, List.foldl_cons]
      unfold loopB
      simp [k1, k2]
      exact h
  obtain ⟨c', h⟩ := loop ns 11 (.list (ns.map PyData.int)) none
  unfold mmSource mDef
  simp only [List.map_cons, List.map_nil, List.length_cons, List.length_nil, List.cons_append, List.nil_append, List.replicate]
  have hc : ∀ M : Int, mComp (mIt (mVar 0)) (gNm 2) mYes (mCallB absD (mA (mVal (mVar 2)) mA0)) [2] [some (.list (ns.map PyData.int)), some (.int M), c'] = some (.list ((ns.map fun i => if i < 0 then -i else i).map PyData.int), [some (.list (ns.map PyData.int)), some (.int M), c']) := by
    intro M
    have := mComp_m (it := mIt (mVar 0)) (g := gNm 2) (m := mCallB absD (mA (mVal (mVar 2)) mA0)) (vs := [2]) (e := [some (.list (ns.map PyData.int)), some (.int M), c']) (e1 := [some (.list (ns.map PyData.int)), some (.int M), c']) (ds := ns.map PyData.int) (fun d => match d with | .int i => .int (if i < 0 then -i else i) | d => d) (by simp) (by simp; omega) fun d hd => by
      obtain ⟨i, _, rfl⟩ := List.mem_map.mp hd
      simp [wipeE]
    rw [this]
    simp [Function.comp_def]
  have hi : intsOf ((ns.map fun i => if i < 0 then -i else i).map PyData.int).reverse = some (ns.map fun i => if i < 0 then -i else i).reverse := by
    rw [← List.map_reverse, intsOf_map]
  simp [h, hc, mSrcNew, finB, outsOf]
  rw [← List.map_map, hi]
  rfl

/-! ### repr of small data -/
mutual
/-- no dict, ints of 64 bits -/
def okD : PyData → Bool
  | .none | .bool _ | .str _ => true
  | .int i => decide (i.natAbs < 2 ^ 64)
  | .list xs | .tuple xs => okA xs
  | .dict _ => false
def okA : List PyData → Bool
  | [] => true
  | x :: xs => okD x && okA xs
end
mutual
/-- room enough for what is shown -/
def sz : PyData → Nat
  | .none => 4
  | .bool _ => 5
  | .int _ => 70
  | .str x => (reprText x).length
  | .list xs | .tuple xs => szA xs + 3
  | .dict _ => 0
def szA : List PyData → Nat
  | [] => 0
  | x :: xs => sz x + 2 + szA xs
end
theorem textFrom_le : ∀ (ts : List Str) (k : Nat) (acc : Str), (textFrom k acc ts).length ≤ acc.length + piled ts
  | [], k, acc => by
    show acc.length ≤ _
    omega
  | t :: r, k, acc => by
    have ih := textFrom_le r (k + 1) (acc ++ (if k > 0 then ", " else "" : String) ++ t)
    have e : (acc ++ (if k > 0 then ", " else "" : String) ++ t).length ≤ acc.length + 2 + t.length := by
      rw [strLen_append, strLen_append]
      split
      · show acc.length + 2 + t.length ≤ _
        omega
      · show acc.length + 0 + t.length ≤ _
        omega
    rw [piled_cons]
    have e2 : textFrom k acc (t :: r) = textFrom (k + 1) (acc ++ (if k > 0 then ", " else "" : String) ++ t) r := rfl
    rw [e2]
    omega
theorem listText_le (ts : List Str) : (listText ts).length ≤ piled ts + 2 := by
  unfold listText
  rw [strLen_append]
  have := textFrom_le ts 0 "["
  have e1 : (("[" : String) : Str).length = 1 := rfl
  have e2 : (("]" : String) : Str).length = 1 := rfl
  omega
theorem tupleText_le (ts : List Str) : (tupleText ts).length ≤ piled ts + 3 := by
  unfold tupleText
  rw [strLen_append, strLen_append]
  have e1 : (("(" : String) : Str).length = 1 := rfl
  have e2 : ((if ts.length == 1 then ",)" else ")" : String) : Str).length ≤ 2 := by
    split
    · exact Nat.le_refl 2
    · exact (by decide : 1 ≤ 2)
  by_cases h : ts = []
  · subst h
    have e3 : (Str.join ", " ([] : List Str)).length = 0 := rfl
    omega
  · have := join_length_add ts h
    omega
theorem intText_le {i : Int} (h : i.natAbs < 2 ^ 64) : ((toString i : String) : Str).length ≤ 70 := by
  have dl : ∀ n : Nat, n < 2 ^ 64 → (Nat.toDigits 10 n).length ≤ 64 := fun n hn => (Nat.length_toDigits_le_iff (by decide) (by decide)).mpr (Nat.lt_of_lt_of_le hn (by decide))
  have hs : ∀ n : Nat, n < 2 ^ 64 → (toString n : String).length ≤ 64 := fun n hn => by
    show (String.ofList (Nat.toDigits 10 n)).length ≤ 64
    rw [String.length_ofList]
    exact dl n hn
  rw [PySem.ofString_length]
  cases i with
  | ofNat n =>
    have := hs n h
    show (toString n : String).length ≤ 70
    omega
  | negSucc n =>
    have := hs (n + 1) h
    show ("-" ++ toString (n + 1) : String).length ≤ 70
    rw [String.length_append]
    have e1 : ("-" : String).length = 1 := rfl
    omega
mutual
theorem shown_le : ∀ {d : PyData}, okD d = true → d.shown.length ≤ sz d
  | .none, _ => by
    unfold PyData.shown sz
    exact Nat.le_refl 4
  | .bool b, _ => by
    unfold PyData.shown sz
    cases b
    · exact Nat.le_refl 5
    · exact (by decide : 4 ≤ 5)
  | .int i, h => by
    unfold okD at h
    unfold PyData.shown sz
    exact intText_le (of_decide_eq_true h)
  | .str x, _ => by
    unfold PyData.shown sz
    exact Nat.le_refl _
  | .list xs, h => by
    unfold okD at h
    unfold PyData.shown sz
    have := listText_le (PyData.shownAll xs)
    have := shownA_le h
    omega
  | .tuple xs, h => by
    unfold okD at h
    unfold PyData.shown sz
    have := tupleText_le (PyData.shownAll xs)
    have := shownA_le h
    omega
  | .dict _, h => by unfold okD at h; cases h
theorem shownA_le : ∀ {ds : List PyData}, okA ds = true → piled (PyData.shownAll ds) ≤ szA ds
  | [], _ => by
    unfold PyData.shownAll szA
    exact Nat.le_refl 0
  | x :: xs, h => by
    unfold okA at h
    rw [Bool.and_eq_true] at h
    unfold PyData.shownAll szA
    rw [piled_cons]
    have := shown_le h.1
    have := shownA_le h.2
    omega
end
mutual
theorem okD_lay : ∀ {d : PyData}, okD d = true → d.showable = true ∧ layD d = true ∧ d.hasDict = false
  | .none, _ => by simp only [PyData.showable, layD, PyData.hasDict, and_self]
  | .bool _, _ => by simp only [PyData.showable, layD, PyData.hasDict, and_self]
  | .str _, _ => by simp only [PyData.showable, layD, PyData.hasDict, and_self]
  | .int i, h => by
    unfold okD at h
    have h := of_decide_eq_true h
    refine ⟨?_, by simp only [layD], by simp only [PyData.hasDict]⟩
    unfold PyData.showable
    refine decide_eq_true ?_
    by_cases h0 : i.natAbs = 0
    · rw [h0]; decide
    · exact Nat.lt_trans ((Nat.log2_lt h0).mpr h) (by decide)
  | .list xs, h => by
    unfold okD at h
    obtain ⟨h1, h2, h3⟩ := okA_lay h
    exact ⟨by unfold PyData.showable; exact h1, by unfold layD; exact h2, by unfold PyData.hasDict; exact h3⟩
  | .tuple xs, h => by
    unfold okD at h
    obtain ⟨h1, h2, h3⟩ := okA_lay h
    exact ⟨by unfold PyData.showable; exact h1, by unfold layD; exact h2, by unfold PyData.hasDict; exact h3⟩
  | .dict _, h => by unfold okD at h; cases h
theorem okA_lay : ∀ {ds : List PyData}, okA ds = true → PyData.showableAll ds = true ∧ layA ds = true ∧ PyData.hasDictAll ds = false
  | [], _ => by simp only [PyData.showableAll, layA, PyData.hasDictAll, and_self]
  | x :: xs, h => by
    unfold okA at h
    rw [Bool.and_eq_true] at h
    obtain ⟨a1, a2, a3⟩ := okD_lay h.1
    obtain ⟨b1, b2, b3⟩ := okA_lay h.2
    unfold PyData.showableAll layA PyData.hasDictAll
    rw [a1, a2, a3, b1, b2, b3]
    exact ⟨rfl, rfl, rfl⟩
end
theorem reprOk_of {d : PyData} (h : okD d = true) (h1 : sz d ≤ 16777216) (h2 : d.depth ≤ 60) : reprOk d = true := by
  obtain ⟨a1, a2, a3⟩ := okD_lay h
  unfold reprOk
  rw [a1, a2, a3, decide_eq_true h2, decide_eq_true (by rw [sizeLine_eq]; exact Nat.le_trans (shown_le h) h1)]
  rfl
@[simp] theorem reprD_ok {d : PyData} : reprD [d] = if reprOk d then some (.str d.shown) else none := rfl

/-! ### lists of one's own; calls with the source -/
def asL : PyData → Option (List PyData)
  | .list ds => some ds
  | _ => none
@[simp] theorem asL_list {ds : List PyData} : asL (.list ds) = some ds := rfl
@[simp] theorem lstAt_ap {i : Nat} {e : Ev} : lstAt i e = (e[i]?).join.bind asL := by
  unfold lstAt
  cases h : e[i]? with
  | none => rfl
  | some o =>
    cases o with
    | none => rfl
    | some d => cases d <;> rfl
@[simp] theorem mApp_ap {i : Nat} {m : M PyData} {e : Ev} : mApp i m e = (lstAt i e).bind fun _ => (m e).bind fun p => (lstAt i p.2).bind fun ds => if ds.length ≤ 1000000 then some (.none, p.2.set i (some (.list (ds ++ [p.1])))) else none := by
  unfold mApp
  cases lstAt i e with
  | none => rfl
  | some ds0 =>
    simp only [Option.bind_some]
    cases m e with
    | none => rfl
    | some p =>
      obtain ⟨y, e1⟩ := p
      simp only [Option.bind_some]
      cases h : lstAt i e1 with
      | none => simp [h]
      | some ds => simp [h]
@[simp] theorem noSlot_nil {i : Nat} : noSlot i [] = true := rfl
@[simp] theorem noSlot_val {i : Nat} {d : PyData} {r : List Opd} : noSlot i (.val d :: r) = noSlot i r := rfl
/-- a draw, as a step -/
theorem pick_at {i : Nat} {e e1 : Ev} {m : M PyData} {many : Int} {s s0 : Src} (h0 : e[i]? = some (some (srcDt s0))) (h : m e = some (.int many, e1)) (h1 : e1[i]? = some (some (srcDt s))) (hm : many.natAbs < 1073741824) :
    mCallS .frz .src mmPick i 1 (mA (mVal m) mA0) e = some (.int (pickR s many).1, e1.set i (some (srcDt (pickR s many).2))) := by
  unfold mCallS
  rw [h0]
  dsimp only
  simp only [mA_ap, mVal_ap, h, Option.map_some, Option.bind_some, mA0_ap]
  rw [h1]
  simp [pick_spec s many hm]
@[simp] theorem mCallS_ap {rk kd : Kd} {mf : List PyData → Option (PyData × List PyData)} {i n : Nat} {ma : M (List Opd)} {e : Ev} : mCallS rk kd mf i n ma e = (e[i]?).join.bind fun _ => (ma e).bind fun p => (p.2[i]?).join.bind fun s => (getAll p.1 p.2).bind fun ds =>
    if ds.length = n ∧ noSlot i p.1 = true then (mf (s :: ds)).bind fun r => r.2.head?.bind fun y => if p.1.any Opd.own && !(immK rk r.1 && decide (kd = .src)) then none else some (r.1, p.2.set i (some y)) else none := by
  unfold mCallS
  cases h : e[i]? with
  | none => rfl
  | some o =>
    cases o with
    | none => rfl
    | some d0 =>
      simp only [Option.join_some, Option.bind_some]
      cases h1 : ma e with
      | none => rfl
      | some p =>
        obtain ⟨os, e1⟩ := p
        simp only [Option.bind_some]
        cases h2 : e1[i]? with
        | none => simp [h2]
        | some o2 =>
          cases o2 with
          | none => simp [h2]
          | some s =>
            simp only [h2, Option.join_some, Option.bind_some]
            cases h3 : getAll os e1 with
            | none => simp [h3]
            | some ds =>
              simp only [h3, Option.bind_some]
              split
              · cases h4 : mf (s :: ds) with
                | none => rfl
                | some r =>
                  obtain ⟨d, l⟩ := r
                  cases l with
                  | nil => rfl
                  | cons y l => rfl
              · rfl
theorem pick_ex (s : Src) (many : Int) (hm : many.natAbs < 1073741824) : ∃ r s', mmPick [srcDt s, .int many] = some (.int r, [srcDt s', .int many]) ∧ 0 ≤ r ∧ r < max 1 many := ⟨_, _, pick_spec s many hm, pickR_lo s many, pickR_hi s many⟩
theorem rg1_i {j : Int} (h : j.natAbs < 2 ^ 60) : rg1 [.int j] = some (rngL 0 j.toNat) := by
  show (if rng62 j = true then some (rngL 0 j.toNat) else none) = _
  rw [if_pos]
  unfold rng62
  rw [Bool.and_eq_true, decide_eq_true_eq, decide_eq_true_eq]
  omega
theorem rg2_i {i j : Int} (h : i.natAbs < 2 ^ 60) (h2 : j.natAbs < 2 ^ 60) : rg2 [.int i, .int j] = some (rngL i (j - i).toNat) := by
  show (if (rng62 i && rng62 j) = true then some (rngL i (j - i).toNat) else none) = _
  rw [if_pos]
  unfold rng62
  simp only [Bool.and_eq_true, decide_eq_true_eq]
  omega

/-! ### shapes, equality, membership -/
section
variable {i j : Int} {xs ys : List PyData} {d : PyData}
@[simp] theorem shaped_ap : SeqAt.shaped d = (d.canLay0 && decide (d.depth ≤ 64)) := rfl
@[simp] theorem lay_n : PyData.none.canLay0 = true := by simp only [PyData.canLay0]
@[simp] theorem lay_b {b : Bool} : (PyData.bool b).canLay0 = true := by simp only [PyData.canLay0]
@[simp] theorem lay_i : (PyData.int i).canLay0 = true := by simp only [PyData.canLay0]
@[simp] theorem lay_s {x : Str} : (PyData.str x).canLay0 = PyData.strOk x := by simp only [PyData.canLay0]
@[simp] theorem lay_l : (PyData.list xs).canLay0 = PyData.canLayAll0 xs := by simp only [PyData.canLay0]
@[simp] theorem lay_t : (PyData.tuple xs).canLay0 = PyData.canLayAll0 xs := by simp only [PyData.canLay0]
@[simp] theorem layA_nil : PyData.canLayAll0 [] = true := by simp only [PyData.canLayAll0]
@[simp] theorem layA_cons : PyData.canLayAll0 (d :: xs) = (d.canLay0 && PyData.canLayAll0 xs) := by simp only [PyData.canLayAll0]
@[simp] theorem layA_ints {ns : List Int} : PyData.canLayAll0 (ns.map .int) = true := by
  induction ns with
  | nil => simp
  | cons n ns ih => simp [ih]
@[simp] theorem dep_n : PyData.none.depth = 0 := by simp only [PyData.depth]
@[simp] theorem dep_b {b : Bool} : (PyData.bool b).depth = 0 := by simp only [PyData.depth]
@[simp] theorem dep_i : (PyData.int i).depth = 0 := by simp only [PyData.depth]
@[simp] theorem dep_s {x : Str} : (PyData.str x).depth = 0 := by simp only [PyData.depth]
@[simp] theorem dep_l : (PyData.list xs).depth = PyData.depthAll xs + 1 := by simp only [PyData.depth]
@[simp] theorem dep_t : (PyData.tuple xs).depth = PyData.depthAll xs + 1 := by simp only [PyData.depth]
@[simp] theorem depA_nil : PyData.depthAll [] = 0 := by simp only [PyData.depthAll]
@[simp] theorem depA_cons : PyData.depthAll (d :: xs) = max d.depth (PyData.depthAll xs) := by simp only [PyData.depthAll]
@[simp] theorem depA_ints {ns : List Int} : PyData.depthAll (ns.map .int) = 0 := by
  induction ns with
  | nil => simp
  | cons n ns ih => simp [ih]
@[simp] theorem eqv_i : PyData.eqv (.int i) (.int j) = decide (i = j) := by
  unfold PyData.eqv
  rfl
@[simp] theorem eqv_b {a b : Bool} : PyData.eqv (.bool a) (.bool b) = decide (a = b) := by
  unfold PyData.eqv
  cases a <;> cases b <;> rfl
@[simp] theorem eqv_t : PyData.eqv (.tuple xs) (.tuple ys) = PyData.eqvAll xs ys := by simp only [PyData.eqv]
@[simp] theorem eqv_l : PyData.eqv (.list xs) (.list ys) = PyData.eqvAll xs ys := by simp only [PyData.eqv]
@[simp] theorem eqvA_nil : PyData.eqvAll [] [] = true := by simp only [PyData.eqvAll]
@[simp] theorem eqvA_cons {e : PyData} : PyData.eqvAll (d :: xs) (e :: ys) = (d.eqv e && PyData.eqvAll xs ys) := by simp only [PyData.eqvAll]
@[simp] theorem eqvA_nc {e : PyData} : PyData.eqvAll [] (e :: ys) = false := by simp only [PyData.eqvAll]
@[simp] theorem eqvA_cn : PyData.eqvAll (d :: xs) [] = false := by simp only [PyData.eqvAll]
theorem eqvA_ints : ∀ {ns ms : List Int}, PyData.eqvAll (ns.map .int) (ms.map .int) = decide (ns = ms)
  | [], [] => by simp
  | [], _ :: _ => by simp
  | _ :: _, [] => by simp
  | n :: ns, m :: ms => by
    rw [List.map_cons, List.map_cons, eqvA_cons, eqvA_ints, eqv_i]
    by_cases h1 : n = m <;> by_cases h2 : ns = ms <;> simp [h1, h2]
mutual
theorem eqv_rfl : ∀ {d : PyData}, d.canLay0 = true → PyData.eqv d d = true
  | .none, _ => by simp only [PyData.eqv]
  | .bool b, _ => by simp
  | .int i, _ => by simp
  | .str x, _ => by
    simp only [PyData.eqv]
    exact beq_self_eq_true x
  | .list xs, h => by
    rw [lay_l] at h
    rw [eqv_l]
    exact eqvA_rfl h
  | .tuple xs, h => by
    rw [lay_t] at h
    rw [eqv_t]
    exact eqvA_rfl h
  | .dict _, h => by simp only [PyData.canLay0] at h; cases h
theorem eqvA_rfl : ∀ {ds : List PyData}, PyData.canLayAll0 ds = true → PyData.eqvAll ds ds = true
  | [], _ => by simp
  | x :: xs, h => by
    rw [layA_cons, Bool.and_eq_true] at h
    rw [eqvA_cons, eqv_rfl h.1, eqvA_rfl h.2]
    rfl
end
theorem eqD_t : eqD (.tuple xs) (.tuple ys) = if SeqAt.shaped (.tuple xs) && SeqAt.shaped (.tuple ys) then some (.bool (PyData.eqvAll xs ys)) else none := by
  unfold eqD eqB
  dsimp only
  split
  · rw [Option.map_some, eqv_t]
  · rfl
theorem neD_t : neD (.tuple xs) (.tuple ys) = if SeqAt.shaped (.tuple xs) && SeqAt.shaped (.tuple ys) then some (.bool (!PyData.eqvAll xs ys)) else none := by
  unfold neD eqB
  dsimp only
  split
  · rw [Option.map_some, eqv_t]
  · rfl
theorem eqD_l : eqD (.list xs) (.list ys) = if SeqAt.shaped (.list xs) && SeqAt.shaped (.list ys) then some (.bool (PyData.eqvAll xs ys)) else none := by
  unfold eqD eqB
  dsimp only
  split
  · rw [Option.map_some, eqv_l]
  · rfl
theorem neD_l : neD (.list xs) (.list ys) = if SeqAt.shaped (.list xs) && SeqAt.shaped (.list ys) then some (.bool (!PyData.eqvAll xs ys)) else none := by
  unfold neD eqB
  dsimp only
  split
  · rw [Option.map_some, eqv_l]
  · rfl
@[simp] theorem eqD_s {x y : Str} : eqD (.str x) (.str y) = some (.bool (decide (x = y))) := rfl
@[simp] theorem neD_s {x y : Str} : neD (.str x) (.str y) = some (.bool (!decide (x = y))) := rfl
theorem neD_same (h : SeqAt.shaped d = true) : neD d d = some (.bool false) := by
  have h2 := h
  rw [shaped_ap, Bool.and_eq_true] at h2
  unfold neD eqB
  cases d with
  | str x => simp
  | _ => simp only [h, Bool.and_self, if_true, Option.map_some, eqv_rfl h2.1, Bool.not_true]
theorem eqD_same (h : SeqAt.shaped d = true) : eqD d d = some (.bool true) := by
  have h2 := h
  rw [shaped_ap, Bool.and_eq_true] at h2
  unfold eqD eqB
  cases d with
  | str x => simp
  | _ => simp only [h, Bool.and_self, if_true, Option.map_some, eqv_rfl h2.1]
@[simp] theorem inD_t : inD d (.tuple xs) = if SeqAt.shaped d && SeqAt.shaped (.tuple xs) then some (.bool (xs.any fun z => PyData.eqv z d)) else none := by
  show (if SeqAt.shaped d && SeqAt.shaped (.tuple xs) then some (xs.any fun z => PyData.eqv z d) else none).map PyData.bool = _
  split <;> rfl
@[simp] theorem inD_l : inD d (.list xs) = if SeqAt.shaped d && SeqAt.shaped (.list xs) then some (.bool (xs.any fun z => PyData.eqv z d)) else none := by
  show (if SeqAt.shaped d && SeqAt.shaped (.list xs) then some (xs.any fun z => PyData.eqv z d) else none).map PyData.bool = _
  split <;> rfl
@[simp] theorem notInD_t : notInD d (.tuple xs) = if SeqAt.shaped d && SeqAt.shaped (.tuple xs) then some (.bool (!(xs.any fun z => PyData.eqv z d))) else none := by
  show (if SeqAt.shaped d && SeqAt.shaped (.tuple xs) then some (xs.any fun z => PyData.eqv z d) else none).map (fun b => PyData.bool (!b)) = _
  split <;> rfl
@[simp] theorem notInD_l : notInD d (.list xs) = if SeqAt.shaped d && SeqAt.shaped (.list xs) then some (.bool (!(xs.any fun z => PyData.eqv z d))) else none := by
  show (if SeqAt.shaped d && SeqAt.shaped (.list xs) then some (xs.any fun z => PyData.eqv z d) else none).map (fun b => PyData.bool (!b)) = _
  split <;> rfl
theorem boolsOf_bools : ∀ bs : List Bool, boolsOf (bs.map .bool) = some bs
  | [] => rfl
  | b :: bs => by
    rw [List.map_cons]
    unfold boolsOf
    rw [boolsOf_bools bs]
theorem allD_bools {bs : List Bool} : allD [.list (bs.map .bool)] = some (.bool (bs.all id)) := by
  show (match boolsOf (bs.map .bool) with | some ns => some (PyData.bool (ns.all id)) | none => none) = _
  rw [boolsOf_bools]
theorem sumD_ints {ns : List Int} : sumD [.list (ns.map .int)] = some (.int ns.sum) := by
  show (match intsOf (ns.map .int) with | some ns => some (PyData.int ns.sum) | none => none) = _
  rw [intsOf_map]
@[simp] theorem itsOf_n : itsOf .none = none := rfl
end

theorem sumD_intsT {ns : List Int} : sumD [.tuple (ns.map .int)] = some (.int ns.sum) := by
  show (match intsOf (ns.map .int) with | some ns => some (PyData.int ns.sum) | none => none) = _
  rw [intsOf_map]

theorem loopB_nx {g : St1} {body : B} {d : PyData} {r : List PyData} {e e1 e2 : Ev} (h1 : g d e = some e1) (h2 : body e1 = some (.nx e2)) : loopB g body (d :: r) e = loopB g body r e2 := by
  conv => lhs; unfold loopB
  rw [h1]
  dsimp only
  rw [h2]
theorem loopB_ct {g : St1} {body : B} {d : PyData} {r : List PyData} {e e1 e2 : Ev} (h1 : g d e = some e1) (h2 : body e1 = some (.ct e2)) : loopB g body (d :: r) e = loopB g body r e2 := by
  conv => lhs; unfold loopB
  rw [h1]
  dsimp only
  rw [h2]
theorem loopB_rt {g : St1} {body : B} {d x : PyData} {r : List PyData} {e e1 e2 : Ev} (h1 : g d e = some e1) (h2 : body e1 = some (.rt x e2)) : loopB g body (d :: r) e = some (.rt x e2) := by
  conv => lhs; unfold loopB
  rw [h1]
  dsimp only
  rw [h2]
@[simp] theorem loopB_nil {g : St1} {body : B} {e : Ev} : loopB g body [] e = some (.nx e) := rfl

theorem cutD_from {ds : List PyData} {k : Int} (h : 0 ≤ k) : cutD ds (some k) none = ds.drop k.toNat := by
  obtain ⟨n, rfl⟩ := Int.eq_ofNat_of_zero_le h
  unfold cutD
  rw [show HT.sIx ds.length 0 (some (n : Int)) = min n ds.length from HT.sIx_nat _ _ _, HT.sIx_none, Int.toNat_natCast]
  rw [List.take_of_length_le (by rw [List.length_drop]; omega)]
  by_cases hn : n ≤ ds.length
  · rw [Nat.min_eq_left hn]
  · rw [Nat.min_eq_right (by omega), List.drop_length, List.drop_eq_nil_of_le (by omega)]
theorem cutD_to {ds : List PyData} {k : Int} (h : 0 ≤ k) : cutD ds none (some k) = ds.take k.toNat := by
  obtain ⟨n, rfl⟩ := Int.eq_ofNat_of_zero_le h
  unfold cutD
  rw [show HT.sIx ds.length ds.length (some (n : Int)) = min n ds.length from HT.sIx_nat _ _ _, HT.sIx_none, Int.toNat_natCast, List.drop_zero, Nat.sub_zero]
  by_cases hn : n ≤ ds.length
  · rw [Nat.min_eq_left hn]
  · rw [Nat.min_eq_right (by omega), List.take_length, List.take_of_length_le (by omega)]
theorem cutD_m1 {ds : List PyData} : cutD ds none (some (-1)) = ds.dropLast := by
  unfold cutD
  rw [show HT.sIx ds.length ds.length (some (-1)) = ((-1 : Int) + (ds.length : Int)).toNat from rfl, HT.sIx_none, List.drop_zero, List.dropLast_eq_take]
  congr 1
  omega
@[simp] theorem sliceD_l {lo hi : Option Int} {ds : List PyData} : sliceD lo hi (.list ds) = some (.list (cutD ds lo hi)) := rfl
@[simp] theorem sliceD_t {lo hi : Option Int} {ds : List PyData} : sliceD lo hi (.tuple ds) = some (.tuple (cutD ds lo hi)) := rfl
@[simp] theorem tyD_i {i : Int} : tyD (.int i) = "int" := rfl
@[simp] theorem tyD_b {b : Bool} : tyD (.bool b) = "bool" := rfl
@[simp] theorem tyD_t {xs : List PyData} : tyD (.tuple xs) = "tuple" := rfl
@[simp] theorem tyD_l {xs : List PyData} : tyD (.list xs) = "list" := rfl
@[simp] theorem tyD_s {x : Str} : tyD (.str x) = "str" := rfl
@[simp] theorem tyD_n : tyD .none = "NoneType" := rfl
@[simp] theorem tyD_d {kvs : List (PyData × PyData)} : tyD (.dict kvs) = "dict" := rfl
@[simp] theorem isiOk_int : isiOk "int" = true := rfl
@[simp] theorem isiOk_bool : isiOk "bool" = true := rfl
@[simp] theorem isiOk_tuple : isiOk "tuple" = true := rfl
@[simp] theorem isiOk_list : isiOk "list" = true := rfl
@[simp] theorem isiOk_str : isiOk "str" = true := rfl
@[simp] theorem isiOk_dict : isiOk "dict" = true := rfl
def isInt : PyData → Bool
  | .int _ => true
  | .bool _ => true
  | _ => false
def isBool : PyData → Bool
  | .bool _ => true
  | _ => false
def isTup : PyData → Bool
  | .tuple _ => true
  | _ => false
@[simp] theorem isi_int {d : PyData} : isiT (tyD d) "int" = isInt d := by cases d <;> rfl
@[simp] theorem isi_bool {d : PyData} : isiT (tyD d) "bool" = isBool d := by cases d <;> rfl
@[simp] theorem isi_tuple {d : PyData} : isiT (tyD d) "tuple" = isTup d := by cases d <;> rfl
@[simp] theorem isInt_i {i : Int} : isInt (.int i) = true := rfl
@[simp] theorem isInt_b {i : Bool} : isInt (.bool i) = true := rfl
@[simp] theorem isInt_t {xs : List PyData} : isInt (.tuple xs) = false := rfl
@[simp] theorem isInt_l {xs : List PyData} : isInt (.list xs) = false := rfl
@[simp] theorem isInt_s {xs : Str} : isInt (.str xs) = false := rfl
@[simp] theorem isInt_n : isInt .none = false := rfl
@[simp] theorem isInt_d {kvs : List (PyData × PyData)} : isInt (.dict kvs) = false := rfl
@[simp] theorem isBool_i {i : Int} : isBool (.int i) = false := rfl
@[simp] theorem isBool_b {i : Bool} : isBool (.bool i) = true := rfl
@[simp] theorem isBool_t {xs : List PyData} : isBool (.tuple xs) = false := rfl
@[simp] theorem isBool_l {xs : List PyData} : isBool (.list xs) = false := rfl
@[simp] theorem isBool_s {xs : Str} : isBool (.str xs) = false := rfl
@[simp] theorem isBool_n : isBool .none = false := rfl
@[simp] theorem isTup_i {i : Int} : isTup (.int i) = false := rfl
@[simp] theorem isTup_b {i : Bool} : isTup (.bool i) = false := rfl
@[simp] theorem isTup_t {xs : List PyData} : isTup (.tuple xs) = true := rfl
@[simp] theorem isTup_l {xs : List PyData} : isTup (.list xs) = false := rfl
@[simp] theorem isTup_s {xs : Str} : isTup (.str xs) = false := rfl
@[simp] theorem isTup_n : isTup .none = false := rfl
@[simp] theorem isTup_d {kvs : List (PyData × PyData)} : isTup (.dict kvs) = false := rfl

@[simp] theorem allD_rep {n : Nat} : allD [.list (List.replicate n (.bool true))] = some (.bool true) := by
  rw [← List.map_replicate (f := PyData.bool), allD_bools]
  simp

/-! ### one of some, drawn -/
def mmOf : List PyData → Option (PyData × List PyData) := mDef .frz [.src, .frz] 2
  (sRet (mBin itemD (mVal (mVar 1)) (mVal (mCallS .frz .src mmPick 0 1 (mA (mVal (mCallB lenD (mA (mVal (mVar 1)) mA0))) mA0)))))
theorem atI_lt {ds : List PyData} {r : Int} (h0 : 0 ≤ r) (h1 : r < ds.length) : ∃ d, atI ds r = some d ∧ d ∈ ds := by
  have hj : r.toNat < ds.length := by omega
  refine ⟨ds[r.toNat], ?_, List.getElem_mem hj⟩
  have := atI_nat (List.getElem?_eq_getElem hj)
  rwa [Int.toNat_of_nonneg h0] at this
theorem of_ex (s : Src) {ds : List PyData} (h : ds ≠ []) (hl : ds.length < 1000000) : ∃ d s', d ∈ ds ∧ mmOf [srcDt s, .list ds] = some (d, [srcDt s', .list ds]) := by
  obtain ⟨r, s', h1, h2, h3⟩ := pick_ex s (ds.length : Int) (by omega)
  have hp : 0 < ds.length := List.length_pos_iff.mpr h
  obtain ⟨d, g1, g2⟩ := atI_lt h2 (show r < ds.length by omega)
  refine ⟨d, s', g2, ?_⟩
  simp [mmOf, mDef, finB, outsOf, h1, g1]
theorem of_ex_t (s : Src) {ds : List PyData} (h : ds ≠ []) (hl : ds.length < 1000000) : ∃ d s', d ∈ ds ∧ mmOf [srcDt s, .tuple ds] = some (d, [srcDt s', .tuple ds]) := by
  obtain ⟨r, s', h1, h2, h3⟩ := pick_ex s (ds.length : Int) (by omega)
  have hp : 0 < ds.length := List.length_pos_iff.mpr h
  obtain ⟨d, g1, g2⟩ := atI_lt h2 (show r < ds.length by omega)
  refine ⟨d, s', g2, ?_⟩
  simp [mmOf, mDef, finB, outsOf, h1, g1]
@[simp] theorem immK_frz {d : PyData} : immK .frz d = imm d := rfl

theorem loopB_ixs {g : St1} {body : B} (R : Nat → Ev → Prop) : ∀ (ds : List PyData) (i : Nat) (e : Ev), R i e → (∀ k d, ds[k]? = some d → ∀ e, R (i + k) e → ∃ e1 e2, g d e = some e1 ∧ (body e1 = some (.nx e2) ∨ body e1 = some (.ct e2)) ∧ R (i + k + 1) e2) →
    ∃ e', loopB g body ds e = some (.nx e') ∧ R (i + ds.length) e'
  | [], i, e, h, _ => ⟨e, rfl, h⟩
  | d :: ds, i, e, h, H => by
    obtain ⟨e1, e2, h1, h2, h3⟩ := H 0 d rfl e h
    obtain ⟨e', h4, h5⟩ := loopB_ixs R ds (i + 1) e2 h3 fun k d' hk e he => by
      have := H (k + 1) d' (by simpa using hk) e (by rw [show i + (k + 1) = i + 1 + k by omega]; exact he)
      rwa [show i + (k + 1) + 1 = i + 1 + k + 1 by omega] at this
    refine ⟨e', ?_, by rw [List.length_cons, show i + (ds.length + 1) = i + 1 + ds.length by omega]; exact h5⟩
    rcases h2 with h2 | h2
    · exact (loopB_nx h1 h2).trans h4
    · exact (loopB_ct h1 h2).trans h4
/-- over the items, from the first; the place is told -/
theorem loopB_ix {g : St1} {body : B} {ds : List PyData} {e : Ev} (R : Nat → Ev → Prop) (h : R 0 e) (H : ∀ k d, ds[k]? = some d → ∀ e, R k e → ∃ e1 e2, g d e = some e1 ∧ (body e1 = some (.nx e2) ∨ body e1 = some (.ct e2)) ∧ R (k + 1) e2) : ∃ e', loopB g body ds e = some (.nx e') ∧ R ds.length e' := by
  have := loopB_ixs (g := g) (body := body) R ds 0 e h fun k d hk e he => by
    have := H k d hk e (by rw [Nat.zero_add] at he; exact he)
    rwa [← Nat.zero_add k] at this
  rwa [Nat.zero_add] at this
@[simp] theorem rngL_len {lo : Int} {n : Nat} : (rngL lo n).length = n := by simp [rngL]

section
variable {xs ys : List PyData} {d : PyData} {ns : List Int}
@[simp] theorem okD_i {i : Int} : okD (.int i) = decide (i.natAbs < 2 ^ 64) := by simp only [okD]
@[simp] theorem okD_b {b : Bool} : okD (.bool b) = true := by simp only [okD]
@[simp] theorem okD_n : okD .none = true := by simp only [okD]
@[simp] theorem okD_s {x : Str} : okD (.str x) = true := by simp only [okD]
@[simp] theorem okD_t : okD (.tuple xs) = okA xs := by simp only [okD]
@[simp] theorem okD_l : okD (.list xs) = okA xs := by simp only [okD]
@[simp] theorem okA_nil : okA [] = true := by simp only [okA]
@[simp] theorem okA_cons : okA (d :: xs) = (okD d && okA xs) := by simp only [okA]
@[simp] theorem okA_app : okA (xs ++ ys) = (okA xs && okA ys) := by
  induction xs with
  | nil => simp
  | cons x xs ih => simp [ih, Bool.and_assoc]
theorem okA_ints (h : ∀ n ∈ ns, n.natAbs < 2 ^ 64) : okA (ns.map .int) = true := by
  induction ns with
  | nil => simp
  | cons n ns ih =>
    rw [List.map_cons, okA_cons, okD_i, decide_eq_true (h n (by simp)), ih fun m hm => h m (by simp [hm])]
    rfl
@[simp] theorem sz_i {i : Int} : sz (.int i) = 70 := by simp only [sz]
@[simp] theorem sz_b {b : Bool} : sz (.bool b) = 5 := by simp only [sz]
@[simp] theorem sz_n : sz .none = 4 := by simp only [sz]
@[simp] theorem sz_s {x : Str} : sz (.str x) = (reprText x).length := by simp only [sz]
@[simp] theorem sz_t : sz (.tuple xs) = szA xs + 3 := by simp only [sz]
@[simp] theorem sz_l : sz (.list xs) = szA xs + 3 := by simp only [sz]
@[simp] theorem szA_nil : szA [] = 0 := by simp only [szA]
@[simp] theorem szA_cons : szA (d :: xs) = sz d + 2 + szA xs := by simp only [szA]
@[simp] theorem szA_app : szA (xs ++ ys) = szA xs + szA ys := by
  induction xs with
  | nil => simp
  | cons x xs ih => simp [ih]; omega
@[simp] theorem szA_ints : szA (ns.map .int) = 72 * ns.length := by
  induction ns with
  | nil => simp
  | cons n ns ih => simp [ih]; omega
theorem len_szA : 2 * xs.length ≤ szA xs := by
  induction xs with
  | nil => simp
  | cons x xs ih => simp; omega
@[simp] theorem layA_app : PyData.canLayAll0 (xs ++ ys) = (PyData.canLayAll0 xs && PyData.canLayAll0 ys) := by
  induction xs with
  | nil => simp
  | cons x xs ih => simp [ih, Bool.and_assoc]
@[simp] theorem depA_app : PyData.depthAll (xs ++ ys) = max (PyData.depthAll xs) (PyData.depthAll ys) := by
  induction xs with
  | nil => simp
  | cons x xs ih => simp [ih, Nat.max_assoc]
end
/-- small and plain data -/
structure Fine (d : PyData) (n m : Nat) : Prop where
  ok : okD d = true
  lay : d.canLay0 = true
  size : sz d ≤ n
  dep : d.depth ≤ m
theorem Fine.repr {d : PyData} {n m : Nat} (h : Fine d n m) (hn : n ≤ 16777216) (hm : m ≤ 60) : reprOk d = true := reprOk_of h.ok (Nat.le_trans h.size hn) (Nat.le_trans h.dep hm)
theorem Fine.shaped {d : PyData} {n m : Nat} (h : Fine d n m) (hm : m ≤ 64) : SeqAt.shaped d = true := by
  rw [shaped_ap, h.lay, decide_eq_true (Nat.le_trans h.dep hm)]
  rfl

theorem seq_nx {m n : B} {e e1 : Ev} (h : m e = some (.nx e1)) : sSeq m n e = n e1 := by
  rw [sSeq_ap, h]
theorem seq_rt {m n : B} {e e1 : Ev} {d : PyData} (h : m e = some (.rt d e1)) : sSeq m n e = some (.rt d e1) := by
  rw [sSeq_ap, h]
end DL

/-! DLT: the words of DLL..DLO, worked out. -/
namespace DL
open PySem PySem.Spec PyProof.Rows L2
section
variable {α β : Type} {e : Ev}
@[simp] theorem mEnum_ap {m : M PyData} : mEnum m e = (m e).bind fun p => (itsOf p.1).map fun ds => (enumL ds, p.2) := by
  simp [mEnum, Function.comp_def]
def zip2 : List PyData → Option (List PyData)
  | [d, e] => match itsOf d, itsOf e with
    | some ds, some es => zipL ds es
    | _, _ => none
  | _ => none
@[simp] theorem zip2_ap {d f : PyData} : zip2 [d, f] = (itsOf d).bind fun ds => (itsOf f).bind fun es => zipL ds es := by
  show (match itsOf d, itsOf f with | some ds, some es => zipL ds es | _, _ => none) = _
  cases itsOf d <;> cases itsOf f <;> rfl
@[simp] theorem mZip_ap {ma : M (List Opd)} : mZip ma e = (ma e).bind fun p => (allVal p.1).bind fun ds => (zip2 ds).map fun l => (l, p.2) := by
  unfold mZip
  simp only [bnd_ap]
  cases ma e with
  | none => rfl
  | some p =>
    simp only [Option.bind_some, lft_ap]
    cases allVal p.1 with
    | none => rfl
    | some ds =>
      match ds with
      | [] => rfl
      | [a] => rfl
      | [a, b] => rfl
      | a :: b :: c :: r => rfl
@[simp] theorem mS0_ap : mS0 e = some ([], e) := rfl
@[simp] theorem mSc_ap {m : M PyData} {r : M (List PyData)} : mSc m r e = (m e).bind fun p => (r p.2).map fun q => (p.1 :: q.1, q.2) := by
  simp only [mSc, bnd_ap, ret_ap]
  cases m e with
  | none => rfl
  | some p => cases h : r p.2 <;> simp [h]
@[simp] theorem mSs_ap {m : M PyData} {r : M (List PyData)} : mSs m r e = (m e).bind fun p => (r p.2).bind fun q => (itsOf p.1).map fun l => (l ++ q.1, q.2) := by
  simp [mSs, Function.comp_def]
@[simp] theorem mTupS_ap {ma : M (List PyData)} : mTupS ma e = (ma e).bind fun p => if p.1.length ≤ 1000000 then some (.tuple p.1, p.2) else none := by
  simp only [mTupS, bnd_ap, lft_ap]
  congr 1; funext p; split <;> rfl
@[simp] theorem mLstS_ap {ma : M (List PyData)} : mLstS ma e = (ma e).bind fun p => if p.1.length ≤ 1000000 then some (.list p.1, p.2) else none := by
  simp only [mLstS, bnd_ap, lft_ap]
  congr 1; funext p; split <;> rfl
@[simp] theorem mCat_ap {ma mb : M Opd} : mCat ma mb e = (ma e).bind fun p => (mb p.2).bind fun q => (p.1.get q.2).bind fun x => (q.1.get q.2).bind fun y => (asL x).bind fun xs => (asL y).bind fun ys => if xs.length + ys.length ≤ sizeLine then some (.list (xs ++ ys), q.2) else none := by
  simp only [mCat, bnd_ap]
  cases ma e with
  | none => rfl
  | some p =>
    simp only [Option.bind_some]
    cases mb p.2 with
    | none => rfl
    | some q =>
      simp only [Option.bind_some]
      cases p.1.get q.2 with
      | none => rfl
      | some x =>
        simp only [Option.bind_some]
        cases h : q.1.get q.2 with
        | none => cases x <;> rfl
        | some y => cases x <;> cases y <;> rfl
@[simp] theorem mRep_ap {ma : M (List Opd)} {mb : M PyData} : mRep ma mb e = (ma e).bind fun p => (mb p.2).bind fun q => (allVal p.1).bind fun ds => match q.1 with
    | .int k => if ds.length ≤ 1000 ∧ k.natAbs ≤ 10000 then some (.list (List.replicate k.toNat ds).flatten, q.2) else none
    | _ => none := by
  simp only [mRep, bnd_ap]
  cases ma e with
  | none => rfl
  | some p =>
    simp only [Option.bind_some]
    cases mb p.2 with
    | none => rfl
    | some q =>
      simp only [Option.bind_some, lft_ap]
      cases allVal p.1 with
      | none => cases q.1 <;> rfl
      | some ds =>
        cases q.1 <;> try rfl
        simp only [Option.bind_some]
        split <;> rfl
@[simp] theorem mRg1_ap {m : M PyData} : mRg1 m e = (m e).bind fun p => match p.1 with
    | .int j => if rgOk 0 j then some (((0 : Int), j), p.2) else none
    | _ => none := by
  simp only [mRg1, bnd_ap]
  cases m e with
  | none => rfl
  | some p =>
    simp only [Option.bind_some, lft_ap]
    cases p.1 <;> try rfl
    dsimp only
    split <;> rfl
@[simp] theorem mRg2_ap {m n : M PyData} : mRg2 m n e = (m e).bind fun p => (n p.2).bind fun q => match p.1, q.1 with
    | .int i, .int j => if rgOk i j then some ((i, j), q.2) else none
    | _, _ => none := by
  simp only [mRg2, bnd_ap]
  cases m e with
  | none => rfl
  | some p =>
    simp only [Option.bind_some]
    cases n p.2 with
    | none => rfl
    | some q =>
      simp only [Option.bind_some, lft_ap]
      cases p.1 <;> cases q.1 <;> try rfl
      dsimp only
      split <;> rfl
@[simp] theorem mLRg_ap {m : M (Int × Int)} : mLRg m e = (m e).map fun p => (.list (rngL p.1.1 (p.1.2 - p.1.1).toNat), p.2) := by
  simp only [mLRg, bnd_ap, ret_ap]
  cases m e <;> rfl
@[simp] theorem mTRg_ap {m : M (Int × Int)} : mTRg m e = (m e).map fun p => (.tuple (rngL p.1.1 (p.1.2 - p.1.1).toNat), p.2) := by
  simp only [mTRg, bnd_ap, ret_ap]
  cases m e <;> rfl
@[simp] theorem sParG_ap {m : M (List PyData)} {g : List PyData → Ev → Option Ev} : sParG m g e = (m e).bind fun p => (g p.1 p.2).map .nx := by
  unfold sParG
  cases m e with
  | none => rfl
  | some p => cases h : g p.1 p.2 <;> simp [h]
@[simp] theorem isD_n {d : PyData} : isD d .none = some (.bool (isNon d)) := by cases d <;> rfl
@[simp] theorem isD_bb {a b : Bool} : isD (.bool a) (.bool b) = some (.bool (decide (a = b))) := rfl
@[simp] theorem isNotD_n {d : PyData} : isNotD d .none = some (.bool (!isNon d)) := by cases d <;> rfl
@[simp] theorem isNotD_bb {a b : Bool} : isNotD (.bool a) (.bool b) = some (.bool (!decide (a = b))) := rfl
@[simp] theorem isNon_n : isNon .none = true := rfl
@[simp] theorem isNon_i {i : Int} : isNon (.int i) = false := rfl
@[simp] theorem isNon_b {i : Bool} : isNon (.bool i) = false := rfl
@[simp] theorem isNon_t {i : List PyData} : isNon (.tuple i) = false := rfl
@[simp] theorem isNon_l {i : List PyData} : isNon (.list i) = false := rfl
@[simp] theorem isNon_s {i : Str} : isNon (.str i) = false := rfl
/-! ### loops and comprehensions over mapped lists -/
theorem rngL_map {n : Nat} : rngL 0 n = (List.range n).map fun k : Nat => PyData.int (k : Int) := by simp [rngL]
theorem compL_al {α : Type} {g : St1} {t : M Bool} {m : M PyData} {vs : List Nat} {e0 : Ev} (h0 : α → PyData) (p : α → Bool) (f : α → PyData) : ∀ {xs : List α}, (∀ x ∈ xs, ∃ e1 e2, g (h0 x) e0 = some e1 ∧ t e1 = some (p x, e2) ∧ (p x = false → wipeE e2 vs = e0) ∧ (p x = true → ∃ e3, m e2 = some (f x, e3) ∧ wipeE e3 vs = e0)) →
    compL g t m vs (xs.map h0) e0 = some ((xs.filter p).map f, e0)
  | [], _ => rfl
  | x :: xs, H => by
    obtain ⟨e1, e2, h1, h2, h3, h4⟩ := H x List.mem_cons_self
    have ih := compL_al h0 p f fun d' hd => H d' (List.mem_cons_of_mem _ hd)
    rw [List.map_cons]
    unfold compL
    rw [h1]
    dsimp only
    rw [h2]
    cases hp : p x with
    | false =>
      dsimp only
      rw [h3 hp, ih, List.filter_cons_of_neg (by rw [hp]; decide)]
    | true =>
      obtain ⟨e3, h5, h6⟩ := h4 hp
      dsimp only
      rw [h5]
      dsimp only
      rw [h6, ih, List.filter_cons_of_pos hp]
      rfl
theorem mComp_al {α : Type} {it : M (List PyData)} {g : St1} {t : M Bool} {m : M PyData} {vs : List Nat} {e e1 : Ev} {xs : List α} (h0 : α → PyData) (p : α → Bool) (f : α → PyData) (h : it e = some (xs.map h0, e1)) (hl : xs.length ≤ 1000000)
    (H : ∀ x ∈ xs, ∃ e2 e3, g (h0 x) (wipeE e1 vs) = some e2 ∧ t e2 = some (p x, e3) ∧ (p x = false → wipeE e3 vs = wipeE e1 vs) ∧ (p x = true → ∃ e4, m e3 = some (f x, e4) ∧ wipeE e4 vs = wipeE e1 vs)) : mComp it g t m vs e = some (.list ((xs.filter p).map f), e1) := by
  unfold mComp
  rw [h]
  dsimp only
  rw [if_pos (by rw [List.length_map]; exact hl), compL_al h0 p f H]
  dsimp only
  rw [backE_wipe]
theorem loopB_al {α S : Type} {g : St1} {body : B} (h0 : α → PyData) (R : S → Ev → Prop) (step : S → α → S) : ∀ {xs : List α} {s : S} {e : Ev}, R s e → (∀ x ∈ xs, ∀ s e, R s e → ∃ e1 e2, g (h0 x) e = some e1 ∧ (body e1 = some (.nx e2) ∨ body e1 = some (.ct e2)) ∧ R (step s x) e2) →
    ∃ e', loopB g body (xs.map h0) e = some (.nx e') ∧ R (xs.foldl step s) e'
  | [], s, e, h, _ => ⟨e, rfl, h⟩
  | d :: ds, s, e, h, H => by
    obtain ⟨e1, e2, h1, h2, h3⟩ := H d List.mem_cons_self s e h
    obtain ⟨e', h4, h5⟩ := loopB_al h0 R step h3 fun d' hd => H d' (List.mem_cons_of_mem _ hd)
    refine ⟨e', ?_, h5⟩
    rw [List.map_cons]
    rcases h2 with h2 | h2
    · exact (loopB_nx h1 h2).trans h4
    · exact (loopB_ct h1 h2).trans h4
/-- a loop that appends f x where p x holds -/
theorem loopB_app {α : Type} {g : St1} {body : B} (h0 : α → PyData) (p : α → Bool) (f : α → PyData) (R : List PyData → Ev → Prop) (m : Nat) : ∀ {xs : List α} {s : List PyData} {e : Ev}, s.length + xs.length ≤ m → R s e → (∀ x ∈ xs, ∀ s e, s.length ≤ m → R s e → ∃ e1 e2, g (h0 x) e = some e1 ∧ (body e1 = some (.nx e2) ∨ body e1 = some (.ct e2)) ∧ R (if p x = true then s ++ [f x] else s) e2) →
    ∃ e', loopB g body (xs.map h0) e = some (.nx e') ∧ R (s ++ (xs.filter p).map f) e'
  | [], s, e, _, h, _ => ⟨e, rfl, by simpa using h⟩
  | d :: ds, s, e, hm, h, H => by
    rw [List.length_cons] at hm
    obtain ⟨e1, e2, h1, h2, h3⟩ := H d List.mem_cons_self s e (by omega) h
    obtain ⟨e', h4, h5⟩ := loopB_app h0 p f R m (by split <;> (try simp only [List.length_append, List.length_cons, List.length_nil]) <;> omega) h3 fun d' hd => H d' (List.mem_cons_of_mem _ hd)
    refine ⟨e', ?_, ?_⟩
    · rw [List.map_cons]
      rcases h2 with h2 | h2
      · exact (loopB_nx h1 h2).trans h4
      · exact (loopB_ct h1 h2).trans h4
    · by_cases hp : p d = true
      · rw [if_pos hp] at h5
        rw [List.filter_cons_of_pos hp]
        simpa using h5
      · rw [if_neg hp] at h5
        rw [List.filter_cons_of_neg hp]
        exact h5
theorem mDef_rt {rk : Kd} {pk : List Kd} {n : Nat} {mb : B} {ds outs : List PyData} {d : PyData} {e0 e1 : Ev} (h0 : ds.map some ++ List.replicate (n - ds.length) none = e0) (h : mb e0 = some (.rt d e1)) (h2 : outsOf pk ds e1 = some outs) : mDef rk pk n mb ds = some (d, outs) := by
  unfold mDef
  rw [h0, h]
  show (outsOf pk ds e1).map _ = _
  rw [h2]
  rfl
theorem sIf_t {c : M Bool} {m n : B} {e e1 : Ev} (h : c e = some (true, e1)) : sIf c m n e = m e1 := by rw [sIf_ap, h]; rfl
theorem sIf_f {c : M Bool} {m n : B} {e e1 : Ev} (h : c e = some (false, e1)) : sIf c m n e = n e1 := by rw [sIf_ap, h]; rfl
theorem sAsg_nm {m : M PyData} {i : Nat} {e e1 : Ev} {d : PyData} (h : m e = some (d, e1)) : sAsg m (gNm i) e = some (.nx (e1.set i (some d))) := by rw [sAsg_ap, h]; rfl
theorem sRet_m {m : M PyData} {e e1 : Ev} {d : PyData} (h : m e = some (d, e1)) : sRet m e = some (.rt d e1) := by rw [sRet_ap, h]; rfl
theorem layA_all {ds : List PyData} (h : ∀ d ∈ ds, d.canLay0 = true) : PyData.canLayAll0 ds = true := by
  induction ds with
  | nil => simp
  | cons d ds ih => simp [h d List.mem_cons_self, ih fun x hx => h x (List.mem_cons_of_mem _ hx)]
theorem depA_all {ds : List PyData} {n : Nat} (h : ∀ d ∈ ds, d.depth ≤ n) : PyData.depthAll ds ≤ n := by
  induction ds with
  | nil => simp
  | cons d ds ih =>
    have h1 := h d List.mem_cons_self
    have h2 := ih fun x hx => h x (List.mem_cons_of_mem _ hx)
    simp only [depA_cons]
    omega
theorem immA_all {ds : List PyData} (h : ∀ d ∈ ds, imm d = true) : immA ds = true := by
  induction ds with
  | nil => rfl
  | cons d ds ih => simp [h d List.mem_cons_self, ih fun x hx => h x (List.mem_cons_of_mem _ hx)]
/-- the places of a word -/
theorem at_w {w : List Int} {k : Nat} (h : k < w.length) : atI (w.map PyData.int) (k : Int) = some (.int (w.getD k 0)) := atI_nat (j := k) (by rw [List.getElem?_map, List.getElem?_eq_getElem h, List.getD_eq_getElem?_getD, List.getElem?_eq_getElem h]; rfl)
theorem at_w1 {w : List Int} {k : Nat} (h : k + 1 < w.length) : atI (w.map PyData.int) ((k : Int) + 1) = some (.int (w.getD (k + 1) 0)) := at_w (k := k + 1) h
theorem at_w2 {w : List Int} {k : Nat} (h : k + 2 < w.length) : atI (w.map PyData.int) ((k : Int) + 2) = some (.int (w.getD (k + 2) 0)) := at_w (k := k + 2) h
theorem cut_to {ds : List PyData} {k : Nat} : cutD ds none (some (k : Int)) = ds.take k := by rw [cutD_to (by omega)]; rfl
theorem cut_from {ds : List PyData} {k : Nat} : cutD ds (some (k : Int)) none = ds.drop k := by rw [cutD_from (by omega)]; rfl
theorem cut_from1 {ds : List PyData} {k : Nat} : cutD ds (some ((k : Int) + 1)) none = ds.drop (k + 1) := cut_from (k := k + 1)
theorem cut_from2 {ds : List PyData} {k : Nat} : cutD ds (some ((k : Int) + 2)) none = ds.drop (k + 2) := cut_from (k := k + 2)
theorem cut_from3 {ds : List PyData} {k : Nat} : cutD ds (some ((k : Int) + 3)) none = ds.drop (k + 3) := cut_from (k := k + 3)
theorem cut_1 {ds : List PyData} : cutD ds (some 1) none = ds.drop 1 := cut_from (k := 1)
end
end DL

/-! DLU: stores into own lists and own rows of lists; lists of new lists. -/
namespace DL
open PySem PySem.Spec PyProof.Rows L2
section
variable {rk : Kd} {X : Cx} {ks : List Kd} {ps : List (Nat × V)} {a b c e o : Expr} {es : List Expr} {pos pos' : Pos}
/-- what was given away comes back -/
theorem EI.takeBack {K : PySem.W.Frag} {G : Addr → Prop} {F : List (List Addr)} {σ : L2.St} {H : Hp} {env : Ev} {i : Nat} {kd : Kd} {Fr : List Addr} {d : PyData} {v : V} (I : EI K ks ps (fun a => G a ∨ a ∈ Fr) F σ H env) (hσ : σ[i]? = some (some v)) (hk : ks[i]? = some kd) (hne : kd ≠ .frz)
    (hn : Fr.Nodup) (hG : ∀ a ∈ Fr, ¬ G a) (ho : OwnAt K H (OO (fun a => G a ∨ a ∈ Fr) F) kd Fr d v) : EI K ks ps G (F.set i Fr) σ H (env.set i (some d)) := by
  have hi : i < ks.length := (List.getElem?_eq_some_iff.mp hk).1
  have less : ∀ a, OO G (F.set i Fr) a → OO (fun a => G a ∨ a ∈ Fr) F a := fun a z => by
    rcases z with z | z
    · exact .inl (.inl z)
    · rcases mem_set z with h | ⟨j, Fj, hj, e, m⟩
      · exact .inl (.inr h)
      · exact .inr (mem_flat.mpr ⟨j, Fj, e, m⟩)
  refine ⟨by rw [List.length_set]; exact I.lF, by rw [List.length_set]; exact I.lE, I.lS, I.nd.set hn fun a ha j Fj hj e m => (I.tr a (mem_flat.mpr ⟨j, Fj, e, m⟩)).2 (.inr ha), fun a ha => ?_, fun a ha => I.gt a (.inl ha), fun j d' kd' h1 h2 => ?_, I.pn, fun j h => ?_⟩
  · rcases mem_set ha with h | ⟨j, Fj, hj, e, m⟩
    · exact ⟨I.gt a (.inr h), hG a h⟩
    · have t := I.tr a (mem_flat.mpr ⟨j, Fj, e, m⟩)
      exact ⟨t.1, fun z => t.2 (.inl z)⟩
  · by_cases hj : j = i
    · subst hj
      rw [List.getElem?_set_self (by rw [I.lE]; exact hi)] at h1
      cases h1
      rw [hk] at h2; cases h2
      exact ⟨v, Fr, hσ, by rw [List.getElem?_set_self (by rw [I.lF]; exact hi)], ho.kp (Kp.less less) fun a _ ob e => e⟩
    · rw [List.getElem?_set_ne (Ne.symm hj)] at h1
      obtain ⟨w, Fj, e1, e2, o⟩ := I.sl j d' kd' h1 h2
      exact ⟨w, Fj, e1, by rw [List.getElem?_set_ne (Ne.symm hj)]; exact e2, o.kp (Kp.less less) fun a _ ob e => e⟩
  · have hj : j ≠ i := fun z => by subst z; rw [hk] at h; exact hne (Option.some.inj h)
    rw [List.getElem?_set_ne (Ne.symm hj)]
    exact I.fz j h
/-- what a slot owns, kept from all that is done meanwhile -/
theorem EI.lent {K : PySem.W.Frag} {G : Addr → Prop} {F : List (List Addr)} {σ : L2.St} {H : Hp} {env : Ev} {i : Nat} {kd : Kd} {d : PyData} (I : EI K ks ps G F σ H env) (h1 : env[i]? = some (some d)) (hk : ks[i]? = some kd) (hne : kd ≠ .frz) :
    ∃ v Fi, σ[i]? = some (some v) ∧ EI K ks ps (fun a => G a ∨ a ∈ Fi) (F.set i []) σ H (env.set i none) ∧ OwnAt K H (OO (fun a => G a ∨ a ∈ Fi) (F.set i [])) kd Fi d v ∧ (∀ a, OO (fun a => G a ∨ a ∈ Fi) (F.set i []) a → OO G F a) ∧ Fi.Nodup ∧
      ∀ F2 H2 env2, Stp (F.set i []) H F2 H2 → EI K ks ps (fun a => G a ∨ a ∈ Fi) F2 σ H2 env2 →
        OwnAt K H2 (OO (fun a => G a ∨ a ∈ Fi) F2) kd Fi d v ∧ (∀ a ∈ Fi, ∀ o, H a = some o → H2 a = some o) ∧
        (EI K ks ps G (F2.set i Fi) σ H2 (env2.set i (some d)) ∧ Stp F H (F2.set i Fi) H2) ∧ (∀ a, OO G (F2.set i Fi) a → OO (fun a => G a ∨ a ∈ Fi) F2 a) ∧
        ∀ b u0 u d', b ∈ Fi → H2 b = some u0 → plainO u0 → OwnAt K (upd H2 b u) (OO (fun a => G a ∨ a ∈ Fi) F2) kd Fi d' v →
          EI K ks ps G (F2.set i Fi) σ (upd H2 b u) (env2.set i (some d')) ∧ Stp F H (F2.set i Fi) (upd H2 b u) := by
  obtain ⟨v, Fi, e1, e2, J, o⟩ := I.giveO h1 hk
  have hnd := I.nd.own i Fi e2
  have inF : ∀ {a : Addr}, a ∈ Fi → a ∈ F.flatten := fun {a} h => mem_flat.mpr ⟨i, Fi, e2, h⟩
  have hG : ∀ a ∈ Fi, ¬ G a := fun a ha => (I.tr a (inF ha)).2
  have notF : ∀ a ∈ Fi, a ∉ (F.set i []).flatten := fun a ha z => (J.tr a z).2 (.inr ha)
  have sub : ∀ a, a ∈ (F.set i []).flatten → a ∈ F.flatten := fun a z => by
    rcases mem_set z with h | ⟨j, Fj, hj, e, m⟩
    · cases h
    · exact mem_flat.mpr ⟨j, Fj, e, m⟩
  refine ⟨v, Fi, e1, J, o, fun a z => ?_, hnd, fun F2 H2 env2 S J2 => ?_⟩
  · rcases z with (z | z) | z
    · exact .inl z
    · exact .inr (inF z)
    · exact .inr (sub a z)
  have keepFi : ∀ a ∈ Fi, ∀ o, H a = some o → H2 a = some o := fun a ha o e => S.keep a o e (notF a ha)
  have o2 := o.kp (S.kp (G := fun a => G a ∨ a ∈ Fi)) keepFi
  have new2 : ∀ a ∈ (F2.set i Fi).flatten, a ∈ F.flatten ∨ H a = none := fun a z => by
    rcases mem_set z with h | ⟨j, Fj, hj, e, m⟩
    · exact .inl (inF h)
    · exact (S.new a (mem_flat.mpr ⟨j, Fj, e, m⟩)).imp (sub a) id
  refine ⟨o2, keepFi, ⟨J2.takeBack e1 hk hne hnd hG o2, fun a ob e n => S.keep a ob e fun z => n (sub a z), S.dom, S.tup, S.frz, new2⟩, fun a z => ?_, fun b u0 u d' hb hu0 pl o3 => ?_⟩
  · rcases z with z | z
    · exact .inl (.inl z)
    · rcases mem_set z with h | ⟨j, Fj, hj, e, m⟩
      · exact .inl (.inr h)
      · exact .inr (mem_flat.mpr ⟨j, Fj, e, m⟩)
  · refine ⟨(J2.put (u0 := u0) (o := u) (.inr hb) hu0 pl).takeBack e1 hk hne hnd hG o3, fun a ob e n => ?_, fun a e => ?_, fun a xs e => ?_, fun a o' u' e => ?_, new2⟩
    · rw [upd_ne (fun z => n (by rw [z]; exact inF hb))]
      exact S.keep a ob e fun z => n (sub a z)
    · by_cases hab : a = b
      · subst hab; rw [upd_same]; simp
      · rw [upd_ne hab]; exact S.dom a e
    · have h2 := S.tup a xs e
      have hab : a ≠ b := fun z => by rw [z, hu0] at h2; cases h2; exact pl
      rw [upd_ne hab]; exact h2
    · have h2 := S.frz a o' u' e
      have hab : a ≠ b := fun z => by rw [z, hu0] at h2; cases h2; exact pl
      rw [upd_ne hab]; exact h2

/-! ### x[k] = e -/
def sPut1 (i : Nat) (me mi : M PyData) : B := fun e => match me e with
  | none => none
  | some (y, e1) => match lstAt i e1 with
    | none => none
    | some ds => match mi (e1.set i none) with
      | some (.int k, e2) => match ixN ds.length k with
        | some j => some (.nx (e2.set i (some (.list (ds.set j y)))))
        | none => none
      | _ => none
theorem sd_put1 {i : Nat} {x : Str} {p1 p2 : Pos} {me mi : M PyData} {ix : Expr} (hN : X.N[i]? = some x) (hk : ks[i]? = some .l1) (he : ED X ks ps e me) (hi : ED X ks ps ix mi) (hv : Vis X.env.scope x := by first | exact Or.inl rfl | exact Or.inr (Or.inl rfl) | exact Or.inr (Or.inr rfl))
    (hd : (x == ("__debug__" : Str)) = false := by decide) (hcd : (x == ("__classdict__" : Str)) = false := by decide)
    (ha : ∀ v, assign (.Subscript (.Name x p1) ix p2) X.env v = (do
      let ov ← holding [v] (eval (.Name x p1) X.env)
      let iv ← holding [v, ov] (eval ix X.env)
      standAt p2
      holding [v, ov, iv] (setItem ov iv v)
      release [v, ov, iv] []) := by intro _; rfl)
    (hs : swapsWithSole [.Subscript (.Name x p1) ix p2] e pos.line X.env = pure false := by rfl) (hw : swappedStores [.Subscript (.Name x p1) ix p2] e X.env = pure none := by rfl)
    (h1 : (assignEach [.Subscript (.Name x p1) ix p2] X.env).map (·.2) = [assign (.Subscript (.Name x p1) ix p2) X.env] := by rfl) :
    SD X ks ps rk (.Assign [.Subscript (.Name x p1) ix p2] e pos) (sPut1 i me mi) :=
  PS.imp (ps_asg he (pg_sub (pe_var hN hv hd hcd) hi set_list ha) hs hw h1) fun D σ H q => by
    obtain ⟨G, F, env, out, I, hm, q⟩ := q
    unfold sPut1 at hm
    split at hm
    · cases hm
    · rename_i y e1 g1
      split at hm
      · cases hm
      · rename_i ds g2
        split at hm
        · rename_i k e2 g3
          split at hm
          · rename_i j g4
            cases hm
            refine ⟨G, F, env, y, e1, I, g1, fun v F1 H1 S1 I1 r1 => ?_⟩
            obtain ⟨w, Fi, hσ, J, o, less, hnd, back⟩ := I1.lent (lstAt_some g2) hk (by decide)
            refine ⟨w, hσ, _, F1.set i [], _, .int k, e2, J, g3, fun u F2 H2 S2 J2 r2 => ?_⟩
            obtain ⟨o2, kf, _, less2, put⟩ := back F2 H2 e2 S2 J2
            obtain ⟨ad, xs, ds', rfl, e5, rfl, e6, ra⟩ := o2
            cases e5
            simp only [Rep] at r2
            refine ⟨ad, xs, k, j, rfl, r2, e6, by rw [← ra.length]; exact g4, ?_⟩
            have kp : Kp (OO (fun a => G a ∨ a ∈ [ad]) F2) H2 (OO (fun a => G a ∨ a ∈ [ad]) F2) (upd H2 ad (.lst (xs.set j v))) := Kp.put (.inl (.inr (List.mem_singleton.mpr rfl))) e6
            have rv : Rep X.K H2 (OO (fun a => G a ∨ a ∈ [ad]) F2) y v := Rep.kp ((Kp.less less).trans (S2.kp (G := fun a => G a ∨ a ∈ [ad]))) r1
            obtain ⟨J3, S3⟩ := put ad _ (.lst (xs.set j v)) (.list (ds.set j y)) (List.mem_singleton.mpr rfl) e6 trivial ⟨ad, _, _, rfl, rfl, rfl, upd_same, (RepA.kp kp ra).set j (Rep.kp kp rv)⟩
            exact q _ _ _ (S1.trans S3) J3
          · cases hm
        · cases hm
/-- x[k] op= e -/
def sAug1 (i : Nat) (g : PyData → PyData → Option PyData) (mi me : M PyData) : B := fun e => match lstAt i e with
  | none => none
  | some ds => match mi (e.set i none) with
    | some (.int k, e1) => match ixN ds.length k with
      | some j => match ds[j]? with
        | some x => match me e1 with
          | some (y, e2) => match g x y with
            | some z => some (.nx (e2.set i (some (.list (ds.set j z)))))
            | none => none
          | none => none
        | none => none
      | none => none
    | _ => none
theorem get_list : PGet X (fun o i H Q => ∃ p xs k v, o = .ref p ∧ i = .int k ∧ SqL X.K H p xs ∧ atI xs k = some v ∧ Q v H) := by
  intro pins s σ H o i ov iv Q I ro ri h
  obtain ⟨p, xs, k, z, rfl, rfl, hq, he, q⟩ := h
  cases ro
  obtain ⟨t, rfl⟩ := ri
  obtain ⟨its, r, pl, hz⟩ := I.list hq
  obtain ⟨j, h1, h2, h3, h4, h5⟩ := atI_get he
  obtain ⟨w, ew, rw'⟩ := r.get h2
  have hl := r.length
  have hn := line63
  have fin : EP X pins σ Q w s := ⟨z, H, I, rw', q⟩
  by_cases h0 : 0 ≤ k
  · have hj : k.toNat = j := by
      rw [seqIndex_of h0 h5] at h1
      exact Option.some.inj h1
    exact wpAny_getItem_list pl.isList h0 (by omega) (by rw [hj]; simpa using ew) fin
  · have hj : (k + (its.toArray.size : Int)).toNat = j := by
      rw [seqIndex_neg (by omega) h4] at h1
      rw [List.size_toArray, ← hl]
      exact Option.some.inj h1
    exact wpAny_getItem_list_neg pl.isList (by omega) (by rw [List.size_toArray] <;> omega) (by omega) (by rw [hj]; simpa using ew) fin
theorem atI_ixN {α : Type} {xs : List α} {k : Int} {j : Nat} (h : ixN xs.length k = some j) : atI xs k = xs[j]? := by unfold atI; rw [h]; rfl
theorem sd_aug1 {i : Nat} {x : Str} {op : Operator} {g : PyData → PyData → Option PyData} {p1 p2 : Pos} {me mi : M PyData} {ix : Expr} (hN : X.N[i]? = some x) (hk : ks[i]? = some .l1) (ho : Op2 X (inplaceOp op) g) (hi : ED X ks ps ix mi) (he : ED X ks ps e me) (hv : Vis X.env.scope x := by first | exact Or.inl rfl | exact Or.inr (Or.inl rfl) | exact Or.inr (Or.inr rfl))
    (hd : (x == ("__debug__" : Str)) = false := by decide) (hcd : (x == ("__classdict__" : Str)) = false := by decide)
    (ha : ∀ ov iv new, augStore ix ov iv new = (do holding [new, ov, iv] (setItem ov iv new); release [new, ov, iv] []; pure .next) := by intros; rfl) :
    SD X ks ps rk (.AugAssign (.Subscript (.Name x p1) ix p2) op e pos) (sAug1 i g mi me) :=
  PS.imp (ps_augS (pe_var hN hv hd hcd) hi get_list he (fun pins s σ H x y v u Q I r1 r2 h => ho pins s σ H x y v u Q I r1 r2 h) set_list ha) fun D σ H q => by
    obtain ⟨G, F, env, out, I, hm, q⟩ := q
    unfold sAug1 at hm
    split at hm
    · cases hm
    · rename_i ds g2
      split at hm
      · rename_i k e1 g3
        split at hm
        · rename_i j g4
          split at hm
          · rename_i dx g5
            split at hm
            · rename_i dy e2 g6
              split at hm
              · rename_i dz g7
                cases hm
                obtain ⟨w, Fi, hσ, J, o, less, hnd, back⟩ := I.lent (lstAt_some g2) hk (by decide)
                refine ⟨w, hσ, _, F.set i [], _, .int k, e1, J, g3, fun u F1 H1 S1 J1 r1 => ?_⟩
                simp only [Rep] at r1
                subst r1
                obtain ⟨o1, _, _, _, _⟩ := back F1 H1 e1 S1 J1
                obtain ⟨ad, xs, ds', rfl, e5, rfl, e6, ra⟩ := o1
                cases e5
                obtain ⟨vx, hx, rx⟩ := ra.get g5
                refine ⟨ad, xs, k, vx, rfl, rfl, .inl (.inl e6), by rw [atI_ixN (by rw [← ra.length]; exact g4)]; exact hx, ?_⟩
                refine ⟨_, F1, e1, dy, e2, J1, g6, fun vy F2 H2 S2 J2 r2 => ?_⟩
                refine ⟨_, dx, dy, dz, fun p hp => OO_new J2 hp, Rep.kp (S2.kp (G := fun a => G a ∨ a ∈ [ad])) rx, r2, g7, fun vz H3 s3 r3 => ?_⟩
                obtain ⟨o3, _, _, _, put⟩ := back F2 H3 e2 (S1.trans (S2.trans (.same s3))) (J2.same s3)
                obtain ⟨ad', xs3, ds3, hF, e7, e8, e9, ra3⟩ := o3
                cases e7
                cases e8
                refine ⟨ad, xs3, k, j, rfl, rfl, e9, by rw [← ra3.length]; exact g4, ?_⟩
                have kp : Kp (OO (fun a => G a ∨ a ∈ [ad]) F2) H3 (OO (fun a => G a ∨ a ∈ [ad]) F2) (upd H3 ad (.lst (xs3.set j vz))) := Kp.put (.inl (.inr (List.mem_singleton.mpr rfl))) e9
                obtain ⟨J4, S4⟩ := put ad _ (.lst (xs3.set j vz)) (.list (ds.set j dz)) (List.mem_singleton.mpr rfl) e9 trivial ⟨ad, _, _, rfl, rfl, rfl, upd_same, (RepA.kp kp ra3).set j (Rep.kp kp r3)⟩
                exact q _ _ _ S4 J4
              · cases hm
            · cases hm
          · cases hm
        · cases hm
      · cases hm

/-! ### rows of one's own -/
def rowsOf : List PyData → Option (List (List PyData))
  | [] => some []
  | .list ds :: r => (rowsOf r).map (ds :: ·)
  | _ :: _ => none
theorem rowsOf_map : ∀ dss : List (List PyData), rowsOf (dss.map PyData.list) = some dss
  | [] => rfl
  | ds :: r => by rw [List.map_cons, rowsOf, rowsOf_map r]; rfl
def rowsAt (i : Nat) (e : Ev) : Option (List (List PyData)) := match e[i]? with
  | some (some (.list ds)) => rowsOf ds
  | _ => none
theorem rowsOf_eq : ∀ {ds : List PyData} {dss : List (List PyData)}, rowsOf ds = some dss → ds = dss.map PyData.list
  | [], dss, h => by cases h; rfl
  | d :: r, dss, h => by
    cases d <;> (unfold rowsOf at h; try cases h)
    obtain ⟨t, ht, rfl⟩ := Option.map_eq_some_iff.mp h
    rw [rowsOf_eq ht]; rfl
theorem rowsAt_some {i : Nat} {e : Ev} {dss : List (List PyData)} (h : rowsAt i e = some dss) : e[i]? = some (some (.list (dss.map PyData.list))) := by
  unfold rowsAt at h
  split at h
  · rename_i ds hd
    rw [hd, rowsOf_eq h]
  · cases h
theorem map_list_inj : ∀ {a b : List (List PyData)}, a.map PyData.list = b.map PyData.list → a = b
  | [], [], _ => rfl
  | [], _ :: _, h => by cases h
  | _ :: _, [], h => by cases h
  | x :: a, y :: b, h => by
    rw [List.map_cons, List.map_cons] at h
    obtain ⟨h1, h2⟩ := List.cons.inj h
    cases h1
    rw [map_list_inj h2]
/-- a row of what a slot owns -/
theorem OwnAt.row {K : PySem.W.Frag} {H : Hp} {O : Addr → Prop} {Fi : List Addr} {dss : List (List PyData)} {v : V} (o : OwnAt K H O .l2 Fi (.list (dss.map PyData.list)) v) {k : Int} {j : Nat} {row : List PyData} (hj : ixN dss.length k = some j) (hr : dss[j]? = some row) :
    ∃ ad bs b xs, v = .ref ad ∧ Fi = ad :: bs ∧ H ad = some (.lst (bs.map V.ref)) ∧ bs[j]? = some b ∧ bs.length = dss.length ∧ atI (bs.map V.ref) k = some (.ref b) ∧ H b = some (.lst xs) ∧ RepA K H O row xs ∧
      ∀ (i : Nat) b ds, bs[i]? = some b → dss[i]? = some ds → ∃ xs, H b = some (.lst xs) ∧ RepA K H O ds xs := by
  obtain ⟨ad, bs, dss', rfl, e1, rfl, e2, el, r⟩ := o
  have e1 : dss.map PyData.list = dss'.map PyData.list := by injection e1
  cases map_list_inj e1
  have hjl : j < bs.length := by rw [el]; exact (List.getElem?_eq_some_iff.mp hr).1
  have hb : bs[j]? = some bs[j] := List.getElem?_eq_getElem hjl
  obtain ⟨xs, q1, q2⟩ := r j _ _ hb hr
  exact ⟨ad, bs, bs[j], xs, rfl, rfl, e2, hb, el, by rw [atI_ixN (by rw [List.length_map, el]; exact hj), List.getElem?_map, hb]; rfl, q1, q2, r⟩
/-- .. written -/
theorem OwnAt.rowPut {K : PySem.W.Frag} {H : Hp} {G : Addr → Prop} {F2 : List (List Addr)} {Fi : List Addr} {dss : List (List PyData)} {v : V} {j : Nat} {row' : List PyData} {ad b : Addr} {bs : List Addr} {xs xs' : List V} (hn : Fi.Nodup) (hF : Fi = ad :: bs) (hv : v = .ref ad) (hH : H ad = some (.lst (bs.map V.ref))) (hb : bs[j]? = some b) (el : bs.length = dss.length)
    (hx : H b = some (.lst xs)) (r : ∀ (i : Nat) b ds, bs[i]? = some b → dss[i]? = some ds → ∃ xs, H b = some (.lst xs) ∧ RepA K H (OO (fun a => G a ∨ a ∈ Fi) F2) ds xs)
    (ra : RepA K H (OO (fun a => G a ∨ a ∈ Fi) F2) row' xs') : OwnAt K (upd H b (.lst xs')) (OO (fun a => G a ∨ a ∈ Fi) F2) .l2 Fi (.list ((dss.set j row').map PyData.list)) v := by
  have hm : b ∈ bs := List.mem_of_getElem? hb
  have hbF : b ∈ Fi := by rw [hF]; exact List.mem_cons_of_mem _ hm
  have kp : Kp (OO (fun a => G a ∨ a ∈ Fi) F2) H (OO (fun a => G a ∨ a ∈ Fi) F2) (upd H b (.lst xs')) := Kp.put (.inl (.inr hbF)) hx
  have hnd : ad ∉ bs ∧ bs.Nodup := by rw [hF] at hn; exact List.nodup_cons.mp hn
  have hab : ad ≠ b := fun z => hnd.1 (by rw [z]; exact hm)
  refine ⟨ad, bs, dss.set j row', hF, rfl, hv, by rw [upd_ne hab]; exact hH, by rw [List.length_set]; exact el, fun i c ds h1 h2 => ?_⟩
  by_cases hi : j = i
  · subst hi
    rw [hb] at h1
    cases h1
    rw [List.getElem?_set_self (by rw [← el]; exact (List.getElem?_eq_some_iff.mp hb).1)] at h2
    cases h2
    exact ⟨xs', upd_same, RepA.kp kp ra⟩
  · rw [List.getElem?_set_ne hi] at h2
    obtain ⟨ys, q1, q2⟩ := r i c ds h1 h2
    have hcb : c ≠ b := fun z => by
      subst z
      exact hi ((List.getElem?_inj (List.getElem?_eq_some_iff.mp hb).1 hnd.2).mp (hb.trans h1.symm))
    exact ⟨ys, by rw [upd_ne hcb]; exact q1, RepA.kp kp q2⟩
/-- x[a][b] -/
def mGet2 (i : Nat) (ma mb : M PyData) : M PyData := fun e => match rowsAt i e with
  | none => none
  | some dss => match ma (e.set i none) with
    | some (.int k, e1) => match ixN dss.length k with
      | some j => match dss[j]? with
        | some row => match mb e1 with
          | some (.int l, e2) => match atI row l with
            | some z => some (z, e2.set i (some (.list (dss.map PyData.list))))
            | none => none
          | _ => none
        | none => none
      | none => none
    | _ => none
theorem ed_get2 {i : Nat} {x : Str} {p1 p2 : Pos} {ma mb : M PyData} {ia ib : Expr} (hN : X.N[i]? = some x) (hk : ks[i]? = some .l2) (hia : ED X ks ps ia ma) (hib : ED X ks ps ib mb) (hpa : PlainIx ia) (hpb : PlainIx ib) (hv : Vis X.env.scope x := by first | exact Or.inl rfl | exact Or.inr (Or.inl rfl) | exact Or.inr (Or.inr rfl))
    (hd : (x == ("__debug__" : Str)) = false := by decide) (hcd : (x == ("__classdict__" : Str)) = false := by decide) : ED X ks ps (.Subscript (.Subscript (.Name x p1) ia p2) ib pos) (mGet2 i ma mb) :=
  PE.imp (pe_ix ix_list (pe_ix ix_list (pe_var hN hv hd hcd) hia hpa) hib hpb) fun σ H Q q => by
    obtain ⟨G, F, env, d, env', I, hm, q⟩ := q
    unfold mGet2 at hm
    split at hm
    · cases hm
    · rename_i dss g2
      split at hm
      · rename_i k e1 g3
        split at hm
        · rename_i j g4
          split at hm
          · rename_i row g5
            split at hm
            · rename_i l e2 g6
              split at hm
              · rename_i z g7
                cases hm
                obtain ⟨w, Fi, hσ, J, o, less, hnd, back⟩ := I.lent (rowsAt_some g2) hk (by decide)
                refine ⟨w, hσ, _, F.set i [], _, .int k, e1, J, g3, fun u F1 H1 S1 J1 r1 => ?_⟩
                simp only [Rep] at r1
                subst r1
                obtain ⟨o1, _, _, _, _⟩ := back F1 H1 e1 S1 J1
                obtain ⟨ad, bs, b, xs, rfl, hF, eA, eb, el, ei, eB, ra, _⟩ := o1.row g4 g5
                refine ⟨ad, _, k, .ref b, rfl, rfl, .inl (.inl eA), ei, ?_⟩
                refine ⟨_, F1, e1, .int l, e2, J1, g6, fun u2 F2 H2 S2 J2 r2 => ?_⟩
                simp only [Rep] at r2
                subst r2
                obtain ⟨o2, _, ⟨J3, S3⟩, less2, _⟩ := back F2 H2 e2 (S1.trans S2) J2
                obtain ⟨ad2, bs2, b2, xs2, hw2, hF2, eA2, eb2, el2, ei2, eB2, ra2, _⟩ := o2.row g4 g5
                rw [hF] at hF2
                cases hF2
                have e3 : b2 = b := Option.some.inj (eb2.symm.trans eb)
                subst e3
                obtain ⟨vz, hz, rz⟩ := ra2.at g7
                exact ⟨b2, xs2, l, vz, rfl, rfl, .inl (.inl eB2), hz, q _ _ _ S3 J3 (Rep.kp (Kp.less less2) rz)⟩
              · cases hm
            · cases hm
          · cases hm
        · cases hm
      · cases hm
/-- x[a][b] = e -/
def sPut2 (i : Nat) (me ma mb : M PyData) : B := fun e => match me e with
  | none => none
  | some (y, e0) => match rowsAt i e0 with
    | none => none
    | some dss => match ma (e0.set i none) with
      | some (.int k, e1) => match ixN dss.length k with
        | some j => match dss[j]? with
          | some row => match mb e1 with
            | some (.int l, e2) => match ixN row.length l with
              | some m => some (.nx (e2.set i (some (.list ((dss.set j (row.set m y)).map PyData.list)))))
              | none => none
            | _ => none
          | none => none
        | none => none
      | _ => none
theorem sd_put2 {i : Nat} {x : Str} {p1 p2 p3 : Pos} {me ma mb : M PyData} {ia ib : Expr} (hN : X.N[i]? = some x) (hk : ks[i]? = some .l2) (he : ED X ks ps e me) (hia : ED X ks ps ia ma) (hib : ED X ks ps ib mb) (hpa : PlainIx ia) (hv : Vis X.env.scope x := by first | exact Or.inl rfl | exact Or.inr (Or.inl rfl) | exact Or.inr (Or.inr rfl))
    (hd : (x == ("__debug__" : Str)) = false := by decide) (hcd : (x == ("__classdict__" : Str)) = false := by decide)
    (ha : ∀ v, assign (.Subscript (.Subscript (.Name x p1) ia p2) ib p3) X.env v = (do
      let ov ← holding [v] (eval (.Subscript (.Name x p1) ia p2) X.env)
      let iv ← holding [v, ov] (eval ib X.env)
      standAt p3
      holding [v, ov, iv] (setItem ov iv v)
      release [v, ov, iv] []) := by intro _; rfl)
    (hs : swapsWithSole [.Subscript (.Subscript (.Name x p1) ia p2) ib p3] e pos.line X.env = pure false := by rfl) (hw : swappedStores [.Subscript (.Subscript (.Name x p1) ia p2) ib p3] e X.env = pure none := by rfl)
    (h1 : (assignEach [.Subscript (.Subscript (.Name x p1) ia p2) ib p3] X.env).map (·.2) = [assign (.Subscript (.Subscript (.Name x p1) ia p2) ib p3) X.env] := by rfl) :
    SD X ks ps rk (.Assign [.Subscript (.Subscript (.Name x p1) ia p2) ib p3] e pos) (sPut2 i me ma mb) :=
  PS.imp (ps_asg he (pg_sub (pe_ix ix_list (pe_var hN hv hd hcd) hia hpa) hib set_list ha) hs hw h1) fun D σ H q => by
    obtain ⟨G, F, env, out, I, hm, q⟩ := q
    unfold sPut2 at hm
    split at hm
    · cases hm
    · rename_i y e0 g1
      split at hm
      · cases hm
      · rename_i dss g2
        split at hm
        · rename_i k e1 g3
          split at hm
          · rename_i j g4
            split at hm
            · rename_i row g5
              split at hm
              · rename_i l e2 g6
                split at hm
                · rename_i m g7
                  cases hm
                  refine ⟨G, F, env, y, e0, I, g1, fun v F0 H0 S0 I0 r0 => ?_⟩
                  obtain ⟨w, Fi, hσ, J, o, less, hnd, back⟩ := I0.lent (rowsAt_some g2) hk (by decide)
                  refine ⟨w, hσ, _, F0.set i [], _, .int k, e1, J, g3, fun u F1 H1 S1 J1 r1 => ?_⟩
                  simp only [Rep] at r1
                  subst r1
                  obtain ⟨o1, _, _, _, _⟩ := back F1 H1 e1 S1 J1
                  obtain ⟨ad, bs, b, xs, rfl, hF, eA, eb, el, ei, eB, ra, _⟩ := o1.row g4 g5
                  refine ⟨ad, _, k, .ref b, rfl, rfl, .inl (.inl eA), ei, ?_⟩
                  refine ⟨_, F1, e1, .int l, e2, J1, g6, fun u2 F2 H2 S2 J2 r2 => ?_⟩
                  simp only [Rep] at r2
                  subst r2
                  obtain ⟨o2, _, _, _, put⟩ := back F2 H2 e2 (S1.trans S2) J2
                  obtain ⟨ad2, bs2, b2, xs2, hw2, hF2, eA2, eb2, el2, ei2, eB2, ra2, r3⟩ := o2.row g4 g5
                  have hFc := hF2
                  rw [hF] at hF2
                  cases hF2
                  have e3 : b2 = b := Option.some.inj (eb2.symm.trans eb)
                  subst e3
                  refine ⟨b2, xs2, l, m, rfl, rfl, eB2, by rw [← ra2.length]; exact g7, ?_⟩
                  have rv : Rep X.K H2 (OO (fun a => G a ∨ a ∈ Fi) F2) y v := Rep.kp ((Kp.less less).trans ((S1.trans S2).kp (G := fun a => G a ∨ a ∈ Fi))) r0
                  have hbF : b2 ∈ Fi := by rw [hFc]; exact List.mem_cons_of_mem _ (List.mem_of_getElem? eb2)
                  obtain ⟨J4, S4⟩ := put b2 _ (.lst (xs2.set m v)) _ hbF eB2 trivial (OwnAt.rowPut hnd hFc rfl eA2 eb2 el2 eB2 r3 (ra2.set m rv))
                  exact q _ _ _ (S0.trans S4) J4
                · cases hm
              · cases hm
            · cases hm
          · cases hm
        · cases hm
/-- x[a][b] op= e -/
def sAug2 (i : Nat) (g : PyData → PyData → Option PyData) (ma mb me : M PyData) : B := fun e => match rowsAt i e with
  | none => none
  | some dss => match ma (e.set i none) with
    | some (.int k, e1) => match ixN dss.length k with
      | some j => match dss[j]? with
        | some row => match mb e1 with
          | some (.int l, e2) => match ixN row.length l with
            | some m => match row[m]? with
              | some x => match me e2 with
                | some (y, e3) => match g x y with
                  | some z => some (.nx (e3.set i (some (.list ((dss.set j (row.set m z)).map PyData.list)))))
                  | none => none
                | none => none
              | none => none
            | none => none
          | _ => none
        | none => none
      | none => none
    | _ => none
theorem sd_aug2 {i : Nat} {x : Str} {op : Operator} {g : PyData → PyData → Option PyData} {p1 p2 p3 : Pos} {me ma mb : M PyData} {ia ib : Expr} (hN : X.N[i]? = some x) (hk : ks[i]? = some .l2) (ho : Op2 X (inplaceOp op) g) (hia : ED X ks ps ia ma) (hib : ED X ks ps ib mb) (he : ED X ks ps e me) (hpa : PlainIx ia) (hv : Vis X.env.scope x := by first | exact Or.inl rfl | exact Or.inr (Or.inl rfl) | exact Or.inr (Or.inr rfl))
    (hd : (x == ("__debug__" : Str)) = false := by decide) (hcd : (x == ("__classdict__" : Str)) = false := by decide)
    (ha : ∀ ov iv new, augStore ib ov iv new = (do holding [new, ov, iv] (setItem ov iv new); release [new, ov, iv] []; pure .next) := by intros; rfl) :
    SD X ks ps rk (.AugAssign (.Subscript (.Subscript (.Name x p1) ia p2) ib p3) op e pos) (sAug2 i g ma mb me) :=
  PS.imp (ps_augS (pe_ix ix_list (pe_var hN hv hd hcd) hia hpa) hib get_list he (fun pins s σ H x y v u Q I r1 r2 h => ho pins s σ H x y v u Q I r1 r2 h) set_list ha) fun D σ H q => by
    obtain ⟨G, F, env, out, I, hm, q⟩ := q
    unfold sAug2 at hm
    split at hm
    · cases hm
    · rename_i dss g2
      split at hm
      · rename_i k e1 g3
        split at hm
        · rename_i j g4
          split at hm
          · rename_i row g5
            split at hm
            · rename_i l e2 g6
              split at hm
              · rename_i m g7
                split at hm
                · rename_i dx g8
                  split at hm
                  · rename_i dy e3 g9
                    split at hm
                    · rename_i dz g10
                      cases hm
                      obtain ⟨w, Fi, hσ, J, o, less, hnd, back⟩ := I.lent (rowsAt_some g2) hk (by decide)
                      refine ⟨w, hσ, _, F.set i [], _, .int k, e1, J, g3, fun u F1 H1 S1 J1 r1 => ?_⟩
                      simp only [Rep] at r1
                      subst r1
                      obtain ⟨o1, _, _, _, _⟩ := back F1 H1 e1 S1 J1
                      obtain ⟨ad, bs, b, xs, rfl, hF, eA, eb, el, ei, eB, ra, _⟩ := o1.row g4 g5
                      refine ⟨ad, _, k, .ref b, rfl, rfl, .inl (.inl eA), ei, ?_⟩
                      refine ⟨_, F1, e1, .int l, e2, J1, g6, fun u2 F2 H2 S2 J2 r2 => ?_⟩
                      simp only [Rep] at r2
                      subst r2
                      obtain ⟨o2, _, _, _, _⟩ := back F2 H2 e2 (S1.trans S2) J2
                      obtain ⟨ad2, bs2, b2, xs2, hw2, hF2, eA2, eb2, el2, ei2, eB2, ra2, _⟩ := o2.row g4 g5
                      rw [hF] at hF2
                      cases hF2
                      have e3' : b2 = b := Option.some.inj (eb2.symm.trans eb)
                      subst e3'
                      obtain ⟨vx, hx, rx⟩ := ra2.get g8
                      refine ⟨b2, xs2, l, vx, rfl, rfl, .inl (.inl eB2), by rw [atI_ixN (by rw [← ra2.length]; exact g7)]; exact hx, ?_⟩
                      refine ⟨_, F2, e2, dy, e3, J2, g9, fun vy F3 H3 S3 J3 r3 => ?_⟩
                      refine ⟨_, dx, dy, dz, fun p hp => OO_new J3 hp, Rep.kp (S3.kp (G := fun a => G a ∨ a ∈ Fi)) rx, r3, g10, fun vz H4 s4 r4 => ?_⟩
                      obtain ⟨o4, _, _, _, put⟩ := back F3 H4 e3 (S1.trans (S2.trans (S3.trans (.same s4)))) (J3.same s4)
                      obtain ⟨ad4, bs4, b4, xs4, hw4, hF4, eA4, eb4, el4, ei4, eB4, ra4, r5⟩ := o4.row g4 g5
                      have hFc := hF4
                      rw [hF] at hF4
                      cases hF4
                      have e3'' : b4 = b2 := Option.some.inj (eb4.symm.trans eb)
                      subst e3''
                      refine ⟨b4, xs4, l, m, rfl, rfl, eB4, by rw [← ra4.length]; exact g7, ?_⟩
                      have hbF : b4 ∈ Fi := by rw [hFc]; exact List.mem_cons_of_mem _ (List.mem_of_getElem? eb4)
                      obtain ⟨J5, S5⟩ := put b4 _ (.lst (xs4.set m vz)) _ hbF eB4 trivial (OwnAt.rowPut hnd hFc rfl eA4 eb4 el4 eB4 r5 (ra4.set m r4))
                      exact q _ _ _ S5 J5
                    · cases hm
                  · cases hm
                · cases hm
              · cases hm
            · cases hm
          · cases hm
        · cases hm
      · cases hm

/-! ### a list of new lists -/
/-- a new list -/
def tFN (K : PySem.W.Frag) (ks : List Kd) (ps : List (Nat × V)) (m : M PyData) : TE := fun σ H Q => ∃ G F env d env', EI K ks ps G F σ H env ∧ m env = some (d, env') ∧
  ∀ v F' H' Fr, Stp F H F' H' → EI K ks ps (fun a => G a ∨ a ∈ Fr) F' σ H' env' → OwnAt K H' (OO (fun a => G a ∨ a ∈ Fr) F') .l1 Fr d v → Fr.Nodup → (∀ a ∈ Fr, ¬ G a ∧ H a = none) → Q v H'
abbrev FND (X : Cx) (ks : List Kd) (ps : List (Nat × V)) (e : Expr) (m : M PyData) : Prop := PE X e (tFN X.K ks ps m)
theorem new_l1N {G : Addr → Prop} {F F1 : List (List Addr)} {σ : L2.St} {H H1 : Hp} {env : Ev} {Q : VK} {ds : List PyData} {vs : List V} {p : Addr} (S1 : Stp F H F1 H1) (I1 : EI X.K ks ps G F1 σ H1 env) (ra : RepA X.K H1 (OO G F1) ds vs) (hp : H1 p = none)
    (q : ∀ v F' H' Fr, Stp F H F' H' → EI X.K ks ps (fun a => G a ∨ a ∈ Fr) F' σ H' env → OwnAt X.K H' (OO (fun a => G a ∨ a ∈ Fr) F') .l1 Fr (.list ds) v → Fr.Nodup → (∀ a ∈ Fr, ¬ G a ∧ H a = none) → Q v H') : Q (.ref p) (upd H1 p (.lst vs)) := by
  refine q _ F1 _ [p] (S1.trans (.same (same_upd hp))) (fresh_own I1 hp) ⟨p, vs, ds, rfl, rfl, rfl, upd_same, RepA.kp (fresh_kp hp) ra⟩ (List.nodup_cons.mpr ⟨List.not_mem_nil, List.nodup_nil⟩) fun a ha => ?_
  rw [List.mem_singleton.mp ha]
  exact ⟨fun z => I1.gt p z hp, S1.back hp⟩
theorem fn_rep {lpos : Pos} {ma : M (List Opd)} {mb : M PyData} (ha : AoD X ks ps es ma) (hb : ED X ks ps b mb) : FND X ks ps (.BinOp (.List es lpos) .Mult b pos) (mRep ma mb) :=
  PE.imp (pe_op op_rep (pe_lst ha) hb) fun σ H Q q => by
    obtain ⟨G, F, env, d, env', I, hm, q⟩ := q
    obtain ⟨os, e1, h1, h2⟩ := bnd_some hm
    obtain ⟨dk, e2, h3, h4⟩ := bnd_some h2
    obtain ⟨h5, eq⟩ := lft_some h4
    subst eq
    split at h5
    · rename_i ds k g1
      split at h5
      · rename_i hl
        cases h5
        refine ⟨G, F, env, os, e1, I, h1, fun vs F1 H1 S1 I1 r1 => ?_⟩
        have ra := HoldsA.vals r1 g1
        have hlen : vs.length ≤ 1000 := by rw [← ra.length]; exact hl.1
        refine ⟨Nat.le_of_lt (small1000 hlen), fun p hp => ?_⟩
        have I2 := fresh_own (u := .lst vs) I1 hp
        refine ⟨_, F1, e1, .int k, _, I2, h3, fun u F2 H2 S2 I3 r2 => ?_⟩
        simp only [Rep] at r2
        subst r2
        have pF : p ∉ F1.flatten := fun z => (I1.tr p z).1 hp
        have eP : H2 p = some (.lst vs) := S2.keep p _ upd_same pF
        refine ⟨p, k, vs, rfl, rfl, eP, by omega, by omega, ?_, fun p2 hp2 => ?_⟩
        · have h1 : vs.length * k.toNat ≤ 1000 * 10000 := Nat.mul_le_mul hlen (by omega)
          rw [sizeLine_eq]
          omega
        · have ra2 : RepA X.K H2 (OO G F2) ds vs := RepA.kp (Kp.trans (fresh_kp (u := .lst vs) hp) ((S2.kp).trans (Kp.less fun a z => z.imp .inl id))) ra
          exact new_l1N ((S1.trans (.same (same_upd hp))).trans S2) (I3.lessG fun a z => .inl z) (ra2.rep k.toNat) hp2 q
      · cases h5
    · cases h5
section
variable {G : Addr → Prop} {F : List (List Addr)} {σ : L2.St} {H : Hp} {env e1 e2 : Ev} {mi : M (List PyData)} {g : St1} {t : M Bool} {m : M PyData} {vs : List Nat} {ds ys : List PyData} {Q : VK}
theorem comp_read2 (I : EI X.K ks ps G F σ H env) (h1 : mi env = some (ds, e1)) (hl : ds.length ≤ 1000000) (h2 : compL g t m vs ds (wipeE e1 vs) = some (ys, e2)) (hk : ∀ i ∈ vs, ks[i]? = some .frz) (hp : ∀ i ∈ vs, psOk ps i = true)
    (q : ∀ (D : Addr) (bs : List Addr) (yss : List (List PyData)) (F' : List (List Addr)) (H' : Hp), Stp F H F' H' → EI X.K ks ps (fun a => G a ∨ a ∈ D :: bs) F' σ H' (backE e1 e2 vs) → OwnAt X.K H' (OO (fun a => G a ∨ a ∈ D :: bs) F') .l2 (D :: bs) (.list ys) (.ref D) → (D :: bs).Nodup → ys = yss.map PyData.list → (∀ a ∈ D :: bs, ¬ G a ∧ H a = none) → Q (.ref D) H') :
    tLc (tI X.K ks ps mi) (tG X.K ks ps vs g) (tT X.K ks ps t) (tFN X.K ks ps m) vs σ H Q := by
  refine ⟨G, F, env, ds, e1, I, h1, fun J F1 H1 Gd Y S1 I1 W hG hY D hD => ?_⟩
  let Gb : List Addr → Addr → Prop := fun bs a => G a ∨ a ∈ D :: bs
  have sm0 : Same H1 (upd H1 D (.lst [])) := same_upd hD
  have hDn : H D = none := S1.back hD
  have I0 : EI X.K ks ps (Gb []) F1 (wipe σ vs) (upd H1 D (.lst [])) (wipeE e1 vs) := (I1.wiped hp).moreG sm0 (fun a z => z.elim .inl fun z => .inr (by rw [List.mem_singleton.mp z]; exact hD)) fun a z => by
    rcases z with z | z
    · exact (Stp.same (F := F1) sm0).dom a (I1.gt a z)
    · rw [List.mem_singleton.mp z, upd_same]; simp
  have line : ∀ n : Nat, n ≤ 1000000 → n < sizeLine := fun n hn => Nat.lt_of_le_of_lt hn (by rw [sizeLine_eq]; decide)
  refine lc_it W (fun i H2 => ∃ (F2 : List (List Addr)) (e3 : Ev) (bs : List Addr) (yss : List (List PyData)) (rest : List PyData), Stp F1 H1 F2 H2 ∧ EI X.K ks ps (Gb bs) F2 (wipe σ vs) H2 e3 ∧ H2 D = some (.lst (bs.map V.ref)) ∧ bs.length = yss.length ∧
      (∀ (i : Nat) b ds, bs[i]? = some b → yss[i]? = some ds → ∃ xs, H2 b = some (.lst xs) ∧ RepA X.K H2 (OO (Gb bs) F2) ds xs) ∧ (D :: bs).Nodup ∧ (∀ b ∈ bs, ¬ G b ∧ H1 b = none) ∧
      compL g t m vs (ds.drop i) e3 = some (rest, e2) ∧ yss.map PyData.list ++ rest = ys ∧ bs.length ≤ i)
    ⟨F1, wipeE e1 vs, [], [], ys, Stp.refl.put hD, I0, upd_same, rfl, (fun i b ds h => by simp at h), List.nodup_cons.mpr ⟨List.not_mem_nil, List.nodup_nil⟩, (fun b hb => nomatch hb), by simpa using h2, rfl, Nat.le_refl _⟩
    (fun i H2 hi ⟨F2, e3, bs, yss, rest, S2, _⟩ => hG F2 H2 S2) (fun i x H2 H3 hi ⟨F2, e3, bs, yss, rest, S2, I2, eD, el, rb, nd, fb, hc, ea, hn⟩ y => ?_) (fun H2 ⟨F2, e3, bs, yss, rest, S2, I2, eD, el, rb, nd, fb, hc, ea, hn⟩ => ?_)
  · have hd : ds.drop i = ds[i] :: ds.drop (i + 1) := List.drop_eq_getElem_cons hi
    have hG' : ∀ a, Gb bs a → G a ∨ H1 a = none := fun a z => z.elim .inl fun z => .inr (by
      rcases List.mem_cons.mp z with z | z
      · rw [z]; exact hD
      · exact (fb a z).2)
    obtain ⟨sm, rx⟩ := hY (Gb bs) i F2 H2 x H3 _ (List.getElem?_eq_getElem hi) hG' S2 I2.oo y
    rw [hd] at hc
    unfold compL at hc
    split at hc
    · cases hc
    · rename_i e4 h4
      refine ⟨Gb bs, F2, e3, ds[i], e4, I2.same sm, rx, h4, fun σ4 F4 H4 w4 S4 I4 => ⟨?_, ?_⟩⟩
      · rw [w4]
        exact wipe_wipe σ vs
      have S24 : Stp F2 H2 F4 H4 := (Stp.same sm).trans S4
      have ndD : ∀ {F5 : List (List Addr)} {σ5 : L2.St} {H5 : Hp} {e5 : Ev}, EI X.K ks ps (Gb bs) F5 σ5 H5 e5 → ∀ a ∈ D :: bs, a ∉ F5.flatten := fun J a ha z => (J.tr a z).2 (.inr ha)
      have wσ : wipe σ4 vs = wipe σ vs := w4.trans (wipe_wipe σ vs)
      have keepb : ∀ {F5 : List (List Addr)} {H5 : Hp}, Stp F2 H2 F5 H5 → ∀ (i : Nat) b ds, bs[i]? = some b → yss[i]? = some ds → ∃ xs, H5 b = some (.lst xs) ∧ RepA X.K H5 (OO (Gb bs) F5) ds xs := fun S5 i b ds h1 h2 => by
        obtain ⟨xs, q1, q2⟩ := rb i b ds h1 h2
        exact ⟨xs, S5.keep b _ q1 (ndD I2 b (List.mem_cons_of_mem _ (List.mem_of_getElem? h1))), RepA.kp S5.kp q2⟩
      split at hc
      · cases hc
      · rename_i e5 h5
        refine ⟨Gb bs, F4, e4, false, e5, I4, h5, fun F5 H5 S5 I5 => iteF ?_⟩
        have S25 := S24.trans S5
        exact ⟨F5, wipeE e5 vs, bs, yss, rest, S2.trans S25, I5.wipe2 wσ hp, S25.keep D _ eD (ndD I2 D List.mem_cons_self), el, keepb S25, nd, fb, hc, ea, by omega⟩
      · rename_i e5 h5
        split at hc
        · cases hc
        · rename_i z e6 h6
          split at hc
          · cases hc
          · rename_i zs e7 h7
            cases hc
            refine ⟨Gb bs, F4, e4, true, e5, I4, h5, fun F5 H5 S5 I5 => iteT ⟨Gb bs, F5, e5, z, e6, I5, h6, fun v F6 H6 Fr S6 I6 o6 nd6 fr6 => ?_⟩⟩
            have S25 := S24.trans S5
            have S26 := S25.trans S6
            obtain ⟨p, xs, dz, rfl, rfl, rfl, eP, rp⟩ := o6
            have hp6 := fr6 p (List.mem_singleton.mpr rfl)
            have hpD : p ∉ D :: bs := fun z => hp6.1 (.inr z)
            have hpG : ¬ G p := fun z => hp6.1 (.inl z)
            have hp1 : H1 p = none := (S2.trans S25).back hp6.2
            have eD6 : H6 D = some (.lst (bs.map V.ref)) := S26.keep D _ eD (ndD I2 D List.mem_cons_self)
            have more : ∀ a, Gb bs a ∨ a ∈ [p] ↔ Gb (bs ++ [p]) a := fun a => by
              show ((G a ∨ a ∈ D :: bs) ∨ a ∈ [p]) ↔ (G a ∨ a ∈ D :: (bs ++ [p]))
              rw [← List.cons_append, List.mem_append, or_assoc]
            have eG : (fun a => Gb bs a ∨ a ∈ [p]) = Gb (bs ++ [p]) := funext fun a => propext (more a)
            rw [eG] at I6 rp
            have hGD : OO (Gb (bs ++ [p])) F6 D := .inl (.inr List.mem_cons_self)
            have kp6 : Kp (OO (Gb bs) F2) H2 (OO (Gb (bs ++ [p])) F6) H6 := S26.kp2 fun a z => ((more a).mpr z).imp id fun z => .inr (by rw [List.mem_singleton.mp z]; exact S25.back hp6.2)
            refine ⟨bs.map V.ref, eD6, line _ (by rw [List.length_map]; have := List.length_drop (i := i) (l := ds); omega), F6, wipeE e6 vs, bs ++ [p], yss ++ [dz], zs, (S2.trans S26).put hD, (I6.wipe2 wσ hp).put (.inr List.mem_cons_self) eD6, by rw [List.map_append]; exact upd_same, by rw [List.length_append, List.length_append, el]; rfl, fun j b ds h1 h2 => ?_, ?_, fun b hb => ?_, h7, by rw [List.map_append, List.append_assoc]; exact ea, by rw [List.length_append]; simp only [List.length_cons, List.length_nil]; omega⟩
            · have kpD : Kp (OO (Gb (bs ++ [p])) F6) H6 (OO (Gb (bs ++ [p])) F6) (upd H6 D (.lst (bs.map V.ref ++ [V.ref p]))) := Kp.put hGD eD6
              by_cases hj : j < bs.length
              · rw [List.getElem?_append_left hj] at h1
                rw [List.getElem?_append_left (by omega)] at h2
                obtain ⟨ys', q1, q2⟩ := rb j b ds h1 h2
                have hbD : b ≠ D := fun z => (List.nodup_cons.mp nd).1 (by rw [← z]; exact List.mem_of_getElem? h1)
                exact ⟨ys', by rw [upd_ne hbD]; exact S26.keep b _ q1 (ndD I2 b (List.mem_cons_of_mem _ (List.mem_of_getElem? h1))), RepA.kp kpD (RepA.kp kp6 q2)⟩
              · have hj2 : j = bs.length := by
                  have := (List.getElem?_eq_some_iff.mp h1).1
                  rw [List.length_append, List.length_singleton] at this
                  omega
                subst hj2
                rw [List.getElem?_append_right (Nat.le_refl _), Nat.sub_self] at h1
                rw [List.getElem?_append_right (by omega), show bs.length - yss.length = 0 by omega] at h2
                cases h1
                cases h2
                have hpD' : p ≠ D := fun z => hpD (by rw [z]; exact List.mem_cons_self)
                exact ⟨xs, by rw [upd_ne hpD']; exact eP, RepA.kp kpD rp⟩
            · rw [← List.cons_append]
              exact List.nodup_append.mpr ⟨nd, List.nodup_cons.mpr ⟨List.not_mem_nil, List.nodup_nil⟩, fun a ha b hb => fun z => hpD (by rw [← List.mem_singleton.mp hb, ← z]; exact ha)⟩
            · rcases List.mem_append.mp hb with hb | hb
              · exact fb b hb
              · rw [List.mem_singleton.mp hb]; exact ⟨hpG, hp1⟩
  · rw [List.drop_length] at hc
    unfold compL at hc
    cases hc
    rw [List.append_nil] at ea
    subst ea
    refine q D bs yss F2 H2 (S1.trans S2) (I1.back I2 S2 (fun a z => z.elim .inl fun z => .inr (by
      rcases List.mem_cons.mp z with z | z
      · rw [z]; exact hD
      · exact (fb a z).2)) hk hp) ⟨D, bs, yss, rfl, rfl, rfl, eD, el, rb⟩ nd rfl fun a ha => ?_
    rcases List.mem_cons.mp ha with rfl | ha
    · exact ⟨fun z => I1.gt _ z hD, hDn⟩
    · exact ⟨(fb a ha).1, S1.back (fb a ha).2⟩
end
theorem fd_comp2 {elt tg it : Expr} {ifs : List Expr} {scope : Scope} {own : List (Str × Nat)} {mi : M (List PyData)} {g : St1} {t : M Bool} {m : M PyData} (hc : X.calm = true) (hN : X.N.Nodup) (hi : ID X ks ps tg it mi) (ok : BlkOk X.N X.env.scope scope own)
    (hg : ∀ (s : Shared) (H : Hp) (C : Addr) (cl : List (Str × Addr)) (fp : List Addr), GD (X.blk s H scope (compEnvC scope cl C X.env) fp) ks ps (own.map (·.2)) tg g)
    (ht : ∀ (s : Shared) (H : Hp) (C : Addr) (cl : List (Str × Addr)) (fp : List Addr), PTs (X.blk s H scope (compEnvC scope cl C X.env) fp) ifs (tT X.K ks ps t))
    (he : ∀ (s : Shared) (H : Hp) (C : Addr) (cl : List (Str × Addr)) (fp : List Addr), FND (X.blk s H scope (compEnvC scope cl C X.env) fp) ks ps elt m)
    (hp : frzAll ks ps (own.map (·.2)) = true)
    (hs : ∀ x, foldedSetIterable it X.env x = pure x := by intro _; rfl) : FD X ks ps .l2 (.ListComp elt [⟨tg, it, ifs, 0⟩] scope pos) (mComp mi g t m (own.map (·.2))) :=
  PE.imp (pe_lc hc hN hi ok hg ht he hs) fun σ H Q q => by
    obtain ⟨G, F, env, d, env', I, hm, q⟩ := q
    obtain ⟨ds, e1, ys, e2, h1, hl, h2, rfl, rfl⟩ := mComp_some hm
    obtain ⟨hk, hp⟩ := frzAll_k hp
    exact comp_read2 I h1 hl h2 hk hp fun D bs yss F' H' S J o nd _ fr => q _ F' H' (D :: bs) S J o nd fun a ha => ⟨(fr a ha).1, .inr (fr a ha).2⟩
/-- x = [..], a list of new lists -/
theorem sd_own2Lc {j : Nat} {y : Str} {py spos : Pos} {elt tg it : Expr} {ifs : List Expr} {scope : Scope} {own : List (Str × Nat)} {mi : M (List PyData)} {g : St1} {t : M Bool} {m : M PyData} (hc : X.calm = true) (hN : X.N.Nodup) (hy : X.N[j]? = some y) (hyl : X.env.scope.names.lookup y = some .local)
    (hk : ks[j]? = some .l2) (hpj : psOk ps j = true)
    (hsw : swapsWith (.ListComp elt [⟨tg, it, ifs, 0⟩] scope pos) (some (.Name y py)) spos.line X.env = pure true) (hi : ID X ks ps tg it mi) (ok : BlkOk X.N X.env.scope scope own)
    (hg : ∀ (s : Shared) (H : Hp) (C : Addr) (cl : List (Str × Addr)) (fp : List Addr), GD (X.blk s H scope (compEnvC scope cl C X.env) fp) ks ps (own.map (·.2)) tg g)
    (ht : ∀ (s : Shared) (H : Hp) (C : Addr) (cl : List (Str × Addr)) (fp : List Addr), PTs (X.blk s H scope (compEnvC scope cl C X.env) fp) ifs (tT X.K ks ps t))
    (he : ∀ (s : Shared) (H : Hp) (C : Addr) (cl : List (Str × Addr)) (fp : List Addr), FND (X.blk s H scope (compEnvC scope cl C X.env) fp) ks ps elt m)
    (hp : frzAll ks ps (own.map (·.2)) = true)
    (hs : ∀ x, foldedSetIterable it X.env x = pure x := by intro _; rfl) : SD X ks ps rk (.Assign [.Name y py] (.ListComp elt [⟨tg, it, ifs, 0⟩] scope pos) spos) (sAsg (mComp mi g t m (own.map (·.2))) (gNm j)) :=
  PS.imp (ps_setLc hc hN hy hyl hsw hi ok hg ht he hs) fun D σ H q => by
    obtain ⟨G, F, env, out, I, hm, q⟩ := q
    obtain ⟨d, e1, e2, h1, h2, rfl⟩ := sAsg_some hm
    cases h2
    obtain ⟨ds, e3, ys, e4, h3, hl, h4, rfl, rfl⟩ := mComp_some h1
    obtain ⟨hk', hp⟩ := frzAll_k hp
    refine comp_read2 (Q := fun x H1 => gName j x σ H1 D.nx) I h3 hl h4 hk' hp fun L bs yss F' H' S J o nd _ fr => ?_
    refine q _ (F'.set j (L :: bs)) H' ⟨S.keep, S.dom, S.tup, S.frz, fun a ha => ?_⟩ (J.setOwn hk (by decide) hpj nd (fun a ha => (fr a ha).1) o)
    rcases mem_set ha with h | ⟨j', Fj, hj, e, m'⟩
    · exact .inr (fr a h).2
    · exact S.new a (mem_flat.mpr ⟨j', Fj, e, m'⟩)
end

/-! ### a def that calls itself, so deep at most -/
def recM (ms : (List PyData → Option (PyData × List PyData)) → List PyData → Option (PyData × List PyData)) : Nat → List PyData → Option (PyData × List PyData)
  | 0 => fun _ => none
  | n + 1 => ms (recM ms n)
section
variable {P : Program} {w : World} {K : PySem.W.Frag} {mg : Str → Option Value} {base : Heap} {rk : Kd} {pk : List Kd} {x qual xm : Str}
theorem FnD.none {st : Stmt} {f : Addr} {fd : FuncData} {ps : List Str} {k : Nat} (F : Fun K x qual st f fd) (hm : mg xm = some (.ref f)) (hb : Binds K fd ps []) : FnD P w K mg base k xm pk rk (fun _ => none) :=
  ⟨f, fd, ps, ⟨(fun vs H Q E h => by obtain ⟨_, G, F, ds, d, outs, I, hm, _⟩ := h; cases hm), fun A outer s H args us vs Q E _ _ _ _ _ h => by obtain ⟨_, G, F, ds, d, outs, I, hm, _⟩ := h; cases hm⟩, hm, F.kp, hb⟩
theorem FnD.recN {ms : (List PyData → Option (PyData × List PyData)) → List PyData → Option (PyData × List PyData)} {k : Nat} (h0 : FnD P w K mg base k xm pk rk (fun _ => Option.none)) (hs : ∀ (j : Nat) rec_, k ≤ j → FnD P w K mg base j xm pk rk rec_ → FnD P w K mg base (j + 1) xm pk rk (ms rec_)) : ∀ n, FnD P w K mg base (k + n) xm pk rk (recM ms n)
  | 0 => h0
  | n + 1 => hs (k + n) _ (Nat.le_add_right _ _) (FnD.recN h0 hs n)
end
end DL

/-! DLV: == where what is compared holds a dict: lists of unlike lengths, a tuple and (). -/
namespace DL
open PySem PySem.Spec PyProof.Rows L2
section
variable {X : Cx}
def eqX : PyData → PyData → Option Bool
  | .list xs, .list ys => if xs.length ≠ ys.length then some false else none
  | .tuple xs, .tuple ys => if xs = [] ∨ ys = [] then some (decide (xs.length = ys.length)) else none
  | _, _ => none
def eqE (d e : PyData) : Option PyData := match eqD d e with
  | some r => some r
  | none => (eqX d e).map .bool
theorem o_eqE (hu : X.A.units + 64 < cLine) : Op2 X (compareOp .Eq) eqE := by
  intro pins s σ H x y v u Q I rx ry q
  obtain ⟨O, dx, dy, d, fr, r1, r2, e, q⟩ := q
  unfold eqE at e
  split at e
  · rename_i r hr
    cases e
    exact o_eq hu pins s σ H x y v u Q I rx ry ⟨O, dx, dy, _, fr, r1, r2, hr, q⟩
  · obtain ⟨b, hb, rfl⟩ := Option.map_eq_some_iff.mp e
    have fin : EP X pins σ Q (.bool b) s := ⟨.bl b, H, I, rfl, q _ H (.refl H) rep_bl⟩
    unfold eqX at hb
    split at hb
    · rename_i xs ys hq
      split at hb
      · rename_i hl
        cases hb
        simp only [Rep] at r1 r2
        obtain ⟨a, vs, rfl, t1, a1⟩ := r1
        obtain ⟨a', vs', rfl, t2, a2⟩ := r2
        cases rx
        cases ry
        obtain ⟨its, w1, p1, z1⟩ := I.list t1.sq
        obtain ⟨its', w2, p2, z2⟩ := I.list t2.sq
        refine PySem.SeqAt.eq_list_lengthsAt p1.isList p2.isList ?_ (by omega) fin
        have h1 := w1.length
        have h2 := w2.length
        have h3 := a1.length
        have h4 := a2.length
        simp only [List.size_toArray, bne_iff_ne]
        omega
      · cases hb
    · rename_i xs ys hq
      split at hb
      · rename_i hl
        cases hb
        simp only [Rep] at r1 r2
        obtain ⟨a, vs, rfl, t1, a1⟩ := r1
        obtain ⟨a', vs', rfl, t2, a2⟩ := r2
        cases rx
        cases ry
        obtain ⟨its, w1, p1, z1⟩ := I.tuple t1.sq
        obtain ⟨its', w2, p2, z2⟩ := I.tuple t2.sq
        have h1 := w1.length
        have h2 := w2.length
        have h3 := a1.length
        have h4 := a2.length
        have hm : its.length = 0 ∨ its'.length = 0 := by
          rcases hl with rfl | rfl
          · left; rw [List.length_nil] at h3; omega
          · right; rw [List.length_nil] at h4; omega
        have e3 : ((List.range (min its.toArray.size its'.toArray.size)).all (fun _ => true) && its.toArray.size == its'.toArray.size) = decide (xs.length = ys.length) := by
          have e4 : its.toArray.size = xs.length := by rw [List.size_toArray]; omega
          have e5 : its'.toArray.size = ys.length := by rw [List.size_toArray]; omega
          rw [e4, e5, List.all_eq_true.mpr (fun _ _ => rfl), Bool.true_and]
          exact Bool.eq_iff_iff.mpr (by simp)
        refine PySem.SeqAt.eq_tupleAt (e := fun _ => true) p1 p2 (by omega) (fun j h1 h2 => ?_) (by rw [e3]; exact fin)
        simp only [List.size_toArray] at h1 h2
        omega
      · cases hb
    · cases hb
end
end DL

/-! DLW: a comprehension over a list of one's own, which stays. -/
namespace DL
open PySem PySem.Spec PyProof.Rows L2
section
variable {rk : Kd} {X : Cx} {ks : List Kd} {ps : List (Nat × V)} {a b c e o : Expr} {es : List Expr} {pos pos' : Pos}
def mCompK (i : Nat) (g : St1) (t : M Bool) (m : M PyData) (vs : List Nat) : M PyData := fun e => match lstAt i e with
  | none => none
  | some ds => if ds.length ≤ 1000000 then match compL g t m vs ds (wipeE (e.set i none) vs) with
    | none => none
    | some (ys, e2) => some (.list ys, (backE (e.set i none) e2 vs).set i (some (.list ds)))
    else none
theorem mCompK_some {i : Nat} {g : St1} {t : M Bool} {m : M PyData} {vs : List Nat} {e e' : Ev} {d : PyData} (h : mCompK i g t m vs e = some (d, e')) : ∃ ds ys e2, lstAt i e = some ds ∧ ds.length ≤ 1000000 ∧ compL g t m vs ds (wipeE (e.set i none) vs) = some (ys, e2) ∧ d = .list ys ∧ e' = (backE (e.set i none) e2 vs).set i (some (.list ds)) := by
  unfold mCompK at h
  split at h
  · cases h
  · rename_i ds h1
    split at h
    · rename_i hl
      split at h
      · cases h
      · rename_i ys e2 h2
        cases h
        exact ⟨ds, ys, e2, h1, hl, h2, rfl, rfl⟩
    · cases h
def wiK (K : PySem.W.Frag) (i : Nat) : TI := fun σ H R => (tVar i) σ H fun x H1 => (∃ a, x = .ref a ∧ (∃ xs, SqL K H1 a xs) ∧ R (Itl K a) H1) ∨ (∃ a, x = .ref a ∧ (∃ xs, SqT K H1 a xs) ∧ R (Itt K a) H1)
section
variable {G : Addr → Prop} {F : List (List Addr)} {σ : L2.St} {H : Hp} {env e1 e2 : Ev} {g : St1} {t : M Bool} {m : M PyData} {vs : List Nat} {ds ys : List PyData} {Q : VK}
theorem comp_readK {i : Nat} (I : EI X.K ks ps G F σ H env) (h1 : lstAt i env = some ds) (hki : ks[i]? = some .l1) (hl : ds.length ≤ 1000000) (h2 : compL g t m vs ds (wipeE (env.set i none) vs) = some (ys, e2)) (hk : ∀ i ∈ vs, ks[i]? = some .frz) (hp : ∀ i ∈ vs, psOk ps i = true)
    (q : ∀ (D : Addr) (xs : List V) (F' : List (List Addr)) (H' : Hp), Stp F H F' H' → EI X.K ks ps (fun a => G a ∨ a = D) F' σ H' ((backE (env.set i none) e2 vs).set i (some (.list ds))) → H D = none → H' D = some (.lst xs) → RepA X.K H' (OO (fun a => G a ∨ a = D) F') ys xs → ¬ OO G F' D → Q (.ref D) H') :
    tLc (wiK X.K i) (tG X.K ks ps vs g) (tT X.K ks ps t) (tD X.K ks ps m) vs σ H Q := by
  obtain ⟨v, Fi, hσ, J, ow, less, hnd, back⟩ := I.lent (lstAt_some h1) hki (by decide)
  obtain ⟨ad, xs, ds', rfl, e5, rfl, eH, ra⟩ := ow
  cases e5
  have hi : i < ks.length := (List.getElem?_eq_some_iff.mp hki).1
  have inF : ∀ b, b ∈ (F.set i []).flatten → b ∈ F.flatten := fun b z => by
    rcases mem_set z with h | ⟨j, Fj, hj, e, m⟩
    · cases h
    · exact mem_flat.mpr ⟨j, Fj, e, m⟩
  have notF : ad ∉ (F.set i []).flatten := fun z => (J.tr ad z).2 (.inr (List.mem_singleton.mpr rfl))
  have adF : ad ∈ F.flatten ∨ H ad = none := by
    rcases less ad (.inl (.inr (List.mem_singleton.mpr rfl))) with z | z
    · obtain ⟨w', Fj, g1, g2, _⟩ := I.sl i _ _ (lstAt_some h1) hki
      obtain ⟨_, _, _, _, _, hh, _⟩ := back _ _ _ .refl J |>.1
      exact absurd z (by
        intro z
        obtain ⟨v2, Fi2, e1', e2', o2⟩ := I.sl i _ _ (lstAt_some h1) hki
        rw [hσ] at e1'
        cases e1'
        obtain ⟨a2, x2, d2, rfl, _, e7, _, _⟩ := o2
        cases e7
        exact (I.tr ad (mem_flat.mpr ⟨i, _, e2', List.mem_singleton.mpr rfl⟩)).2 z)
    · exact .inl z
  have adG : ¬ G ad := fun z => by
    rcases adF with h | h
    · exact (I.tr ad h).2 z
    · exact I.gt ad z h
  refine ⟨.ref ad, hσ, .inl ⟨ad, rfl, ⟨xs, .inl (.inl eH)⟩, fun D hD => ?_⟩⟩
  refine comp_core (G := fun b => G b ∨ b ∈ [ad]) (F := F.set i []) J hl h2 hk hp (fun D' xs' F' H' S J' hDn eD ra' nO => ?_) .refl J (by rw [ra.length]; exact walk_list (xs := xs)) (fun F2 H2 S2 => Or.inl (Or.inl (S2.keep ad _ eH notF))) (fun G2 j F2 H2 x H3 d hd hg S2 _ y => ?_) hD
  · have adD : ad ≠ D' := fun z => by rw [z, hDn] at eH; cases eH
    have eG : (fun b => (G b ∨ b ∈ [ad]) ∨ b = D') = fun b => (G b ∨ b = D') ∨ b ∈ [ad] := by
      funext b
      exact propext (or_right_comm)
    rw [eG] at J' ra'
    have kp : Kp (OO (fun b => G b ∨ b ∈ [ad]) (F.set i [])) H (OO (fun b => (G b ∨ b = D') ∨ b ∈ [ad]) F') H' := S.kp2 fun b z => by
      rcases z with (z | z) | z
      · exact .inl (.inl z)
      · exact .inr (.inr (by rw [z]; exact hDn))
      · exact .inl (.inr z)
    have eH' : H' ad = some (.lst xs) := S.keep ad _ eH notF
    have T := J'.takeBack hσ hki (by decide) (d := .list ds) (List.nodup_cons.mpr ⟨List.not_mem_nil, List.nodup_nil⟩) (fun b hb z => by
      rw [List.mem_singleton.mp hb] at z
      exact z.elim adG adD) ⟨ad, xs, ds, rfl, rfl, rfl, eH', RepA.kp kp ra⟩
    have sub : ∀ b, OO (fun a => G a ∨ a = D') (F'.set i [ad]) b → OO (fun b => (G b ∨ b = D') ∨ b ∈ [ad]) F' b := fun b z => by
      rcases z with z | z
      · exact .inl (.inl z)
      · rcases mem_set z with h | ⟨j, Fj, hj, e, m⟩
        · exact .inl (.inr h)
        · exact .inr (mem_flat.mpr ⟨j, Fj, e, m⟩)
    refine q D' xs' (F'.set i [ad]) H' ⟨fun b ob e n => S.keep b ob e fun z => n (inF b z), S.dom, S.tup, S.frz, fun b hb => ?_⟩ T hDn eD (RepA.kp (Kp.less sub) ra') fun z => ?_
    · rcases mem_set hb with h | ⟨j, Fj, hj, e, m⟩
      · rw [List.mem_singleton.mp h]; exact adF
      · exact (S.new b (mem_flat.mpr ⟨j, Fj, e, m⟩)).imp (inF b) id
    · rcases z with z | z
      · exact nO (.inl (.inl z))
      · rcases mem_set z with h | ⟨j, Fj, hj, e, m⟩
        · exact adD (List.mem_singleton.mp h).symm
        · exact nO (.inr (mem_flat.mpr ⟨j, Fj, e, m⟩))
  · obtain ⟨rfl, hx⟩ := y
    obtain ⟨x', e', r'⟩ := ra.get hd
    rw [hx] at e'; cases e'
    exact ⟨.refl _, Rep.kp (S2.kp2 fun a z => (hg a z).imp id .inr) r'⟩
end
variable {i : Nat} {x : Str} {px : Pos} {elt tg : Expr} {ifs : List Expr} {scope : Scope} {own : List (Str × Nat)} {g : St1} {t : M Bool} {m : M PyData}
theorem ed_compK (hc : X.calm = true) (hN : X.N.Nodup) (hx : X.N[i]? = some x) (hki : ks[i]? = some .l1) (hv : Vis X.env.scope x) (ok : BlkOk X.N X.env.scope scope own)
    (hg : ∀ (s : Shared) (H : Hp) (C : Addr) (cl : List (Str × Addr)) (fp : List Addr), GD (X.blk s H scope (compEnvC scope cl C X.env) fp) ks ps (own.map (·.2)) tg g)
    (ht : ∀ (s : Shared) (H : Hp) (C : Addr) (cl : List (Str × Addr)) (fp : List Addr), PTs (X.blk s H scope (compEnvC scope cl C X.env) fp) ifs (tT X.K ks ps t))
    (he : ∀ (s : Shared) (H : Hp) (C : Addr) (cl : List (Str × Addr)) (fp : List Addr), ED (X.blk s H scope (compEnvC scope cl C X.env) fp) ks ps elt m)
    (hp : frzAll ks ps (own.map (·.2)) = true) (hd : (x == ("__debug__" : Str)) = false := by decide) (hcd : (x == ("__classdict__" : Str)) = false := by decide)
    (hs : ∀ y, foldedSetIterable (.Name x px) X.env y = pure y := by intro _; rfl) : ED X ks ps (.ListComp elt [⟨tg, .Name x px, ifs, 0⟩] scope pos) (mCompK i g t m (own.map (·.2))) :=
  PE.imp (pe_lc hc hN (pi_seq (pe_var hx hv hd hcd)) ok hg ht he hs) fun σ H Q q => by
    obtain ⟨G, F, env, d, env', I, hm, q⟩ := q
    obtain ⟨ds, ys, e2, h1, hl, h2, rfl, rfl⟩ := mCompK_some hm
    obtain ⟨hk, hp⟩ := frzAll_k hp
    refine comp_readK I h1 hki hl h2 hk hp fun D xs F' H' S J hD eD ra nO => q _ F' H' S (J.lessG fun _ z => .inl z) ?_
    simp only [Rep]
    exact ⟨D, xs, rfl, LstAt.rd (.inl eD) nO, RepA.kp (Kp.less fun a z => z.elim (fun z => Or.inl (Or.inl z)) Or.inr) ra⟩
theorem fd_compK (hc : X.calm = true) (hN : X.N.Nodup) (hx : X.N[i]? = some x) (hki : ks[i]? = some .l1) (hv : Vis X.env.scope x) (ok : BlkOk X.N X.env.scope scope own)
    (hg : ∀ (s : Shared) (H : Hp) (C : Addr) (cl : List (Str × Addr)) (fp : List Addr), GD (X.blk s H scope (compEnvC scope cl C X.env) fp) ks ps (own.map (·.2)) tg g)
    (ht : ∀ (s : Shared) (H : Hp) (C : Addr) (cl : List (Str × Addr)) (fp : List Addr), PTs (X.blk s H scope (compEnvC scope cl C X.env) fp) ifs (tT X.K ks ps t))
    (he : ∀ (s : Shared) (H : Hp) (C : Addr) (cl : List (Str × Addr)) (fp : List Addr), ED (X.blk s H scope (compEnvC scope cl C X.env) fp) ks ps elt m)
    (hp : frzAll ks ps (own.map (·.2)) = true) (hd : (x == ("__debug__" : Str)) = false := by decide) (hcd : (x == ("__classdict__" : Str)) = false := by decide)
    (hs : ∀ y, foldedSetIterable (.Name x px) X.env y = pure y := by intro _; rfl) : FD X ks ps .l1 (.ListComp elt [⟨tg, .Name x px, ifs, 0⟩] scope pos) (mCompK i g t m (own.map (·.2))) :=
  PE.imp (pe_lc hc hN (pi_seq (pe_var hx hv hd hcd)) ok hg ht he hs) fun σ H Q q => by
    obtain ⟨G, F, env, d, env', I, hm, q⟩ := q
    obtain ⟨ds, ys, e2, h1, hl, h2, rfl, rfl⟩ := mCompK_some hm
    obtain ⟨hk, hp⟩ := frzAll_k hp
    refine comp_readK I h1 hki hl h2 hk hp fun D xs F' H' S J hD eD ra nO => ?_
    have eG : (fun a => G a ∨ a = D) = fun a => G a ∨ a ∈ [D] := by funext a; simp
    rw [eG] at J ra
    exact q _ F' H' [D] S J ⟨D, xs, ys, rfl, rfl, rfl, eD, ra⟩ (List.nodup_cons.mpr ⟨List.not_mem_nil, List.nodup_nil⟩) fun a ha => by
      rw [List.mem_singleton.mp ha]
      exact ⟨fun z => nO (.inl z), .inr hD⟩
variable {j : Nat} {y : Str} {py spos : Pos}
theorem sd_setLcK (hc : X.calm = true) (hN : X.N.Nodup) (hy : X.N[j]? = some y) (hyl : X.env.scope.names.lookup y = some .local)
    (hk : ks[j]? = some .frz) (hpj : psOk ps j = true)
    (hsw : swapsWith (.ListComp elt [⟨tg, .Name x px, ifs, 0⟩] scope pos) (some (.Name y py)) spos.line X.env = pure true) (hx : X.N[i]? = some x) (hki : ks[i]? = some .l1) (hv : Vis X.env.scope x) (ok : BlkOk X.N X.env.scope scope own)
    (hg : ∀ (s : Shared) (H : Hp) (C : Addr) (cl : List (Str × Addr)) (fp : List Addr), GD (X.blk s H scope (compEnvC scope cl C X.env) fp) ks ps (own.map (·.2)) tg g)
    (ht : ∀ (s : Shared) (H : Hp) (C : Addr) (cl : List (Str × Addr)) (fp : List Addr), PTs (X.blk s H scope (compEnvC scope cl C X.env) fp) ifs (tT X.K ks ps t))
    (he : ∀ (s : Shared) (H : Hp) (C : Addr) (cl : List (Str × Addr)) (fp : List Addr), ED (X.blk s H scope (compEnvC scope cl C X.env) fp) ks ps elt m)
    (hp : frzAll ks ps (own.map (·.2)) = true) (hd : (x == ("__debug__" : Str)) = false := by decide) (hcd : (x == ("__classdict__" : Str)) = false := by decide)
    (hs : ∀ y, foldedSetIterable (.Name x px) X.env y = pure y := by intro _; rfl) : SD X ks ps rk (.Assign [.Name y py] (.ListComp elt [⟨tg, .Name x px, ifs, 0⟩] scope pos) spos) (sAsg (mCompK i g t m (own.map (·.2))) (gNm j)) :=
  PS.imp (ps_setLc hc hN hy hyl hsw (pi_seq (pe_var hx hv hd hcd)) ok hg ht he hs) fun D σ H q => by
    obtain ⟨G, F, env, out, I, hm, q⟩ := q
    obtain ⟨d, e1, e2, h1, h2, rfl⟩ := sAsg_some hm
    cases h2
    obtain ⟨ds, ys, e4, h3, hl, h4, rfl, rfl⟩ := mCompK_some h1
    obtain ⟨hk', hp⟩ := frzAll_k hp
    refine comp_readK (Q := fun x H1 => gName j x σ H1 D.nx) I h3 hki hl h4 hk' hp fun L xs F' H' S J hD eD ra nO => q _ F' H' S ((J.lessG fun _ z => .inl z).set_frz hk (psOk_ne hpj) ?_)
    simp only [Rep]
    exact ⟨L, xs, rfl, LstAt.rd (.inl eD) nO, RepA.kp (Kp.less fun a z => z.elim (fun z => Or.inl (Or.inl z)) Or.inr) ra⟩
theorem sd_ownLcK (hc : X.calm = true) (hN : X.N.Nodup) (hy : X.N[j]? = some y) (hyl : X.env.scope.names.lookup y = some .local)
    (hk : ks[j]? = some .l1) (hpj : psOk ps j = true)
    (hsw : swapsWith (.ListComp elt [⟨tg, .Name x px, ifs, 0⟩] scope pos) (some (.Name y py)) spos.line X.env = pure true) (hx : X.N[i]? = some x) (hki : ks[i]? = some .l1) (hv : Vis X.env.scope x) (ok : BlkOk X.N X.env.scope scope own)
    (hg : ∀ (s : Shared) (H : Hp) (C : Addr) (cl : List (Str × Addr)) (fp : List Addr), GD (X.blk s H scope (compEnvC scope cl C X.env) fp) ks ps (own.map (·.2)) tg g)
    (ht : ∀ (s : Shared) (H : Hp) (C : Addr) (cl : List (Str × Addr)) (fp : List Addr), PTs (X.blk s H scope (compEnvC scope cl C X.env) fp) ifs (tT X.K ks ps t))
    (he : ∀ (s : Shared) (H : Hp) (C : Addr) (cl : List (Str × Addr)) (fp : List Addr), ED (X.blk s H scope (compEnvC scope cl C X.env) fp) ks ps elt m)
    (hp : frzAll ks ps (own.map (·.2)) = true) (hd : (x == ("__debug__" : Str)) = false := by decide) (hcd : (x == ("__classdict__" : Str)) = false := by decide)
    (hs : ∀ y, foldedSetIterable (.Name x px) X.env y = pure y := by intro _; rfl) : SD X ks ps rk (.Assign [.Name y py] (.ListComp elt [⟨tg, .Name x px, ifs, 0⟩] scope pos) spos) (sAsg (mCompK i g t m (own.map (·.2))) (gNm j)) :=
  PS.imp (ps_setLc hc hN hy hyl hsw (pi_seq (pe_var hx hv hd hcd)) ok hg ht he hs) fun D σ H q => by
    obtain ⟨G, F, env, out, I, hm, q⟩ := q
    obtain ⟨d, e1, e2, h1, h2, rfl⟩ := sAsg_some hm
    cases h2
    obtain ⟨ds, ys, e4, h3, hl, h4, rfl, rfl⟩ := mCompK_some h1
    obtain ⟨hk', hp⟩ := frzAll_k hp
    refine comp_readK (Q := fun x H1 => gName j x σ H1 D.nx) I h3 hki hl h4 hk' hp fun L xs F' H' S J hD eD ra nO => ?_
    have eG : (fun a => G a ∨ a = L) = fun a => G a ∨ a ∈ [L] := by funext a; simp
    rw [eG] at J ra
    refine q _ (F'.set j [L]) H' ⟨S.keep, S.dom, S.tup, S.frz, fun a ha => ?_⟩ (J.setOwn hk (by decide) hpj (List.nodup_cons.mpr ⟨List.not_mem_nil, List.nodup_nil⟩) (fun a ha => by rw [List.mem_singleton.mp ha]; exact fun z => nO (.inl z)) ⟨L, xs, ys, rfl, rfl, rfl, eD, ra⟩)
    rcases mem_set ha with h | ⟨j', Fj, hj, e, m'⟩
    · rw [List.mem_singleton.mp h]; exact .inr hD
    · exact S.new a (mem_flat.mpr ⟨j', Fj, e, m'⟩)
end
end DL

/-! DLX: defs that raise an own exception; try .. except. -/
namespace DL
open PySem PySem.Spec PyProof.Rows L2

theorem PSs.or {X : Cx} {st : List Stmt} {t u : TS} (h : PSs X st t) (g : PSs X st u) : PSs X st (fun D σ H => t D σ H ∨ u D σ H) := ⟨fun pins s σ H D I q => q.elim (h.run pins s σ H D I) (g.run pins s σ H D I)⟩
theorem PS.nox {X : Cx} {st : Stmt} {t : TS} (h : PS X.nox st t) : PS X st t := ⟨fun pins s σ H D I hw =>
  wpAny_mono (h.run pins s σ H D (I.wish _) hw) (fun _ _ h => SP.unwish h) fun _ _ z => False.elim z⟩
theorem AP.unwish {X : Cx} {pins : List (Addr × Obj)} {σ : L2.St} {Q : List V → Hp → Prop} {us : List Value} {s : Shared} (h : AP X.nox pins σ Q us s) : AP X pins σ Q us s := by
  obtain ⟨vs, H', I', r, q⟩ := h
  exact ⟨vs, H', I'.unwish, r, q⟩
theorem PA.nox {X : Cx} {es : List Expr} {t : TA} (h : PA X.nox es t) : PA X es t := ⟨fun pos pins s σ H Q I hw =>
  wpAny_mono (h.run pos pins s σ H Q (I.wish _) hw) (fun _ _ h => AP.unwish h) fun _ _ z => False.elim z⟩

/-- what is known of an own exception class without own __init__, over ValueError -/
structure ExcF (K : PySem.W.Frag) (mg : Str → Option Value) (x : Str) (C : Addr) : Prop where
  gP : mg x = some (.ref C)
  xP : PySem.W.excIn K C [.type "ValueError", .type "Exception", .type "BaseException", .type "object"] "ValueError.__new__" = true
  kP : PySem.W.keepIn K (.ref C) = true
  bP : PySem.W.subIn K (.ref C) (.type "BaseException") = some true
  tP : PySem.W.typeIn K (.ref C) = some (.type "type")
  eP : PySem.W.exmOne K (.ref C) (.ref C) = some true

theorem exm_self {K : PySem.W.Frag} {S : Addr} (h1 : PySem.W.subIn K (.ref S) (.type "BaseException") = some true) (h2 : PySem.W.isClsIn K S = true) (h3 : PySem.W.typeIn K (.ref S) = some (.type "type")) (h4 : PySem.W.subIn K (.ref S) (.ref S) = some true) :
    PySem.W.exmOne K (.ref S) (.ref S) = some true := by
  have e1 : (PySem.W.subIn K (.ref S) (.type "BaseException") == some true) = true := by rw [h1] <;> rfl
  have e2 : ((PySem.W.clsIn K S).isSome && PySem.W.typeIn K (.ref S) == some (.type "type")) = true := by
    have h2' : (PySem.W.clsIn K S).isSome = true := h2
    rw [h2', h3] <;> rfl
  show (if (PySem.W.subIn K (.ref S) (.type "BaseException") == some true) = true then (if ((PySem.W.clsIn K S).isSome && PySem.W.typeIn K (.ref S) == some (.type "type")) = true then PySem.W.subIn K (.ref S) (.ref S) else none) else none) = some true
  rw [if_pos e1, if_pos e2]
  exact h4
theorem ExcF.mk2 {K : PySem.W.Frag} {mg : Str → Option Value} {x : Str} {C : Addr} (gP : mg x = some (.ref C)) (xP : PySem.W.excIn K C [.type "ValueError", .type "Exception", .type "BaseException", .type "object"] "ValueError.__new__" = true) (kP : PySem.W.keepIn K (.ref C) = true)
    (bP : PySem.W.subIn K (.ref C) (.type "BaseException") = some true) (tP : PySem.W.typeIn K (.ref C) = some (.type "type")) (iP : PySem.W.isClsIn K C = true) (sP : PySem.W.subIn K (.ref C) (.ref C) = some true) : ExcF K mg x C := ⟨gP, xP, kP, bP, tP, exm_self bP iP tP sP⟩
section
variable {X : Cx} {C : Addr} {bmB : List Value} {B newId initId : String}
/-- X() -/
theorem pmk_own0 {x : Str} {p pos : Pos} (F : ExcBaseFacts B newId initId bmB) (q : PySem.W.excIn X.K C bmB newId = true) (gC : X.mg x = some (.ref C)) (kC : PySem.W.keepIn X.K (.ref C) = true) (r : Raises X (.ref C)) (hg : Gl X x)
    (hdb : (x == ("__debug__" : Str)) = false := by decide) : PMk X (.Call (.Name x p) [] [] pos) (fun _ H Q => Q (.ref C) none H) := by
  intro pins s σ H Q I h
  refine wpAny_Call_Name_kw (ld_glob I hg gC (PySem.W.callWith_K0 I.kIn kC ?_) hdb)
  show wpAny _ _ (call (.ref C) []) _ _ _
  obtain ⟨bm, N, nm, qn, bs, hdct, sn, sub, ab, col, dd, k0, k1, k2, k3, k5, mN, hC, hN, hni, T⟩ := exc_obj I.kIn q
  refine wpAny_call_exc_subT F T hC hN hni (fun h' e hm => ?_) (by simp)
  exact mk_of I hm r h (I.hok.gone hm.new)
end

/-! ### where a block raises: a mirror that gives True there -/
def tY (K : PySem.W.Frag) (ks : List Kd) (ps : List (Nat × V)) (W : WX) (C : Addr) (y : B) : TS := fun D σ H => ∃ G F env o, EI K ks ps G F σ H env ∧ y env = some o ∧
  match o with
  | .rt (.bool true) e => ∀ σ' F' H', Stp F H F' H' → EI K ks ps G F' σ' H' e → W (.ref C) none σ' H'
  | .nx e => ∀ σ' F' H', Stp F H F' H' → EI K ks ps G F' σ' H' e → D.nx σ' H'
  | _ => False
abbrev YS (X : Cx) (ks : List Kd) (ps : List (Nat × V)) (W : WX) (C : Addr) (st : Stmt) (y : B) : Prop := PS X st (tY X.K ks ps W C y)
abbrev YSs (X : Cx) (ks : List Kd) (ps : List (Nat × V)) (W : WX) (C : Addr) (st : List Stmt) (y : B) : Prop := PSs X st (tY X.K ks ps W C y)
/-- nothing is returned -/
def Nrt (m : B) : Prop := ∀ e d e', m e ≠ some (.rt d e')
theorem nrt_asg {m : M PyData} {g : St1} : Nrt (sAsg m g) := fun e d e' h => by
  unfold sAsg at h; repeat' split at h
  all_goals cases h
theorem nrt_aug {i : Nat} {g : PyData → PyData → Option PyData} {m : M PyData} : Nrt (sAug i g m) := fun e d e' h => by
  unfold sAug at h; repeat' split at h
  all_goals cases h
theorem nrt_expr {m : M PyData} : Nrt (sExpr m) := fun e d e' h => by
  unfold sExpr at h; repeat' split at h
  all_goals cases h
theorem nrt_parK {is : List Nat} {m : M (List PyData)} : Nrt (sParK is m) := fun e d e' h => by
  unfold sParK at h; repeat' split at h
  all_goals cases h
theorem nrt_parG {g : List PyData → Ev → Option Ev} {m : M (List PyData)} : Nrt (sParG m g) := fun e d e' h => by
  unfold sParG at h; repeat' split at h
  all_goals cases h
theorem nrt_nx : Nrt sNx := fun e d e' h => by cases h
theorem nrt_bk : Nrt sBk := fun e d e' h => by cases h
theorem nrt_ct : Nrt sCt := fun e d e' h => by cases h
theorem nrt_seq {m n : B} (h1 : Nrt m) (h2 : Nrt n) : Nrt (sSeq m n) := fun e d e' h => by
  unfold sSeq at h
  split at h
  · exact h2 _ _ _ h
  · exact h1 _ _ _ h
theorem nrt_if {c : M Bool} {m n : B} (h1 : Nrt m) (h2 : Nrt n) : Nrt (sIf c m n) := fun e d e' h => by
  unfold sIf at h
  split at h
  · exact h1 _ _ _ h
  · exact h2 _ _ _ h
  · cases h
theorem nrt_while {f : Ev → Nat} {c : M Bool} {m : B} (h1 : Nrt m) : Nrt (sWhile f c m) := fun e d e' h => by
  unfold sWhile at h
  generalize f e = n at h
  induction n generalizing e with
  | zero => cases h
  | succ n ih =>
    unfold whileB at h
    repeat' split at h
    all_goals first | cases h; done | exact ih _ h | (rename_i q; exact h1 _ _ _ q)
theorem nrt_for {it : M (List PyData)} {g : St1} {m : B} (h1 : Nrt m) : Nrt (sFor it g m) := fun e d e' h => by
  unfold sFor at h
  split at h
  · cases h
  · rename_i ds e1 hq
    clear hq
    induction ds generalizing e1 with
    | nil => unfold loopB at h; cases h
    | cons x ds ih =>
      unfold loopB at h
      repeat' split at h
      all_goals first | cases h; done | exact ih _ h | (rename_i q; exact h1 _ _ _ q)
section
variable {X : Cx} {ks : List Kd} {ps : List (Nat × V)} {W : WX} {C : Addr} {rk : Kd} {e c : Expr} {es : List Expr} {pos : Pos}
theorem rs_norm {st : Stmt} {m : B} (h : SD X.nox ks ps rk st m) (hn : Nrt m) : YS X ks ps W C st m := PS.imp (PS.nox h) fun D σ H q => by
  obtain ⟨G, F, env, o, I, hm, q⟩ := q
  refine ⟨G, F, env, o, I, hm, ?_⟩
  cases o with
  | nx e => exact q
  | rt d e => exact absurd hm (hn _ _ _)
  | bk e => exact q.elim
  | ct e => exact q.elim
theorem rss_nil : YSs X ks ps W C [] sNx := PSs.imp pss_nil fun D σ H q => by
  obtain ⟨G, F, env, o, I, hm, q⟩ := q
  cases hm
  exact q σ F H .refl I
theorem rss_one {st : Stmt} {y : B} (h : YS X ks ps W C st y) : YSs X ks ps W C [st] y := pss_one h
theorem rss_cons {st : Stmt} {rest : List Stmt} {y yr : B} (hx : YS X ks ps W C st y) (hr : YSs X ks ps W C rest yr) : YSs X ks ps W C (st :: rest) (sSeq y yr) := by
  refine PSs.imp (pss_cons hx hr) fun D σ H q => ?_
  obtain ⟨G, F, env, o, I, hm, q⟩ := q
  unfold sSeq at hm
  split at hm
  · rename_i e' h1
    refine ⟨G, F, env, _, I, h1, fun σ1 F1 H1 S1 I1 => ⟨G, F1, e', o, I1, hm, ?_⟩⟩
    split at q
    · exact fun σ' F' H' S J => q σ' F' H' (S1.trans S) J
    · exact fun σ' F' H' S J => q σ' F' H' (S1.trans S) J
    · exact q.elim
  · rename_i h1
    refine ⟨G, F, env, o, I, hm, ?_⟩
    split at q
    · exact q
    · exact absurd hm (h1 _)
    · exact q.elim
theorem rs_if {sa sb : List Stmt} {t : M Bool} {ya yb : B} (hc : TD X.nox ks ps c t) (ha : YSs X ks ps W C sa ya) (hb : YSs X ks ps W C sb yb) : YS X ks ps W C (.If c sa sb pos) (sIf t ya yb) := by
  refine PS.imp (ps_if (PT.nox hc) ha hb) fun D σ H q => ?_
  obtain ⟨G, F, env, o, I, hm, q⟩ := q
  unfold sIf at hm
  have lift : ∀ {F1 : List (List Addr)} {H1 : Hp} {e1 : Ev} {y : B}, Stp F H F1 H1 → EI X.K ks ps G F1 σ H1 e1 → y e1 = some o → tY X.K ks ps W C y D σ H1 := fun {F1 H1 e1 y} S1 I1 hy => by
    refine ⟨G, F1, e1, o, I1, hy, ?_⟩
    split at q
    · exact fun σ' F' H' S J => q σ' F' H' (S1.trans S) J
    · exact fun σ' F' H' S J => q σ' F' H' (S1.trans S) J
    · exact q.elim
  split at hm
  · rename_i e1 h1
    exact ⟨G, F, env, true, e1, I, h1, fun F1 H1 S1 I1 => iteT (lift S1 I1 hm)⟩
  · rename_i e1 h1
    exact ⟨G, F, env, false, e1, I, h1, fun F1 H1 S1 I1 => iteF (lift S1 I1 hm)⟩
  · cases hm
theorem rs_raise {x : Str} {p p1 : Pos} (hc : X.calm = true) (tk : Takes X W) (f : ExcF X.K X.mg x C) (hg : Gl X x) (hdb : (x == ("__debug__" : Str)) = false := by decide) : YS X ks ps W C (.Raise (some (.Call (.Name x p) [] [] p1)) none pos) (sRet (ret (.bool true))) :=
  PS.imp (ps_raise hc tk (pmk_own0 PySem.F.excBase_ValueError f.xP f.gP f.kP (raises_own f.bP f.tP) hg hdb)) fun D σ H q => by
    obtain ⟨G, F, env, o, I, hm, q⟩ := q
    cases hm
    exact q σ F H .refl I
theorem rs_ret {st : Stmt} : YS X ks ps W C st (sRet (ret (.bool false))) := ⟨fun pins s σ H D I q => by
  obtain ⟨G, F, env, o, I, hm, q⟩ := q
  cases hm
  exact q.elim⟩
end

/-! ### defs -/
def spX (K : PySem.W.Frag) (n : Nat) (C : Addr) (xf : List PyData → Bool) : Sp := fun vs H _ E => vs.length = n ∧ ∃ O ds, (∀ p, H p = none → ¬ O p) ∧ RepA K H O ds vs ∧ xf ds = true ∧ ∀ H', Same H H' → E (.ref C) none H'
/-- a def (no parameter owned) that raises C where xf tells -/
def FnX (P : Program) (w : World) (K : PySem.W.Frag) (mg : Str → Option Value) (base : Heap) (C : Addr) (k : Nat) (x : Str) (n : Nat) (xf : List PyData → Bool) : Prop :=
  ∃ f fd ps, FnG P w K mg base (L2.CX P w) k f fd ps (spX K n C xf) ∧ mg x = some (.ref f) ∧ PySem.W.keepIn K (.ref f) = true ∧ Binds K fd ps []
theorem FnX.up {P : Program} {w : World} {K : PySem.W.Frag} {mg : Str → Option Value} {base : Heap} {C : Addr} {j k n : Nat} {x : Str} {xf : List PyData → Bool} (F : FnX P w K mg base C j x n xf) (h : j ≤ k) : FnX P w K mg base C k x n xf := by
  obtain ⟨f, fd, ps, h1, h2, h3, h4⟩ := F
  exact ⟨f, fd, ps, h1.up h, h2, h3, h4⟩
/-- where the def raises, by a def that tells it -/
def xOf (my : List PyData → Option (PyData × List PyData)) (ds : List PyData) : Bool := match my ds with
  | some (.bool true, _) => true
  | _ => false
theorem FnX.of_body {P : Program} {w : World} {K : PySem.W.Frag} {mg : Str → Option Value} {base : Heap} {k : Nat} {f : Addr} {fd : FuncData} {C : Addr} {x qual xm : Str} {st : Stmt} {N ps : List Str} {ks : List Kd} {n : Nat} {y : B} (F : Fun K x qual st f fd) (hm : mg xm = some (.ref f)) (hb : Binds K fd ps []) (S : FnScope N ps (defScope st)) (hpk : n = ps.length) (hks : ks.length = N.length)
    (htk : ks.take n = List.replicate n .frz)
    (body : ∀ (cdv : Value) (A : Around) (outer : List Env) (s : Shared) (H : Hp) (E : XK) (vs : List V), Room k (A.deeper (envOfC qual (defScope st) s.heap.objs.size f cdv)) → (A.deeper (envOfC qual (defScope st) s.heap.objs.size f cdv)).guards = some [] → vs.length = ps.length →
      Takes (cxOf (L2.CX P w) P w K mg base N qual (defScope st) f cdv A outer s H E) (fun cls d _ H => E cls d H) →
      YSs (cxOf (L2.CX P w) P w K mg base N qual (defScope st) f cdv A outer s H E) ks (pinsOf [] vs) (fun cls d _ H => E cls d H) C (defBody st) y) : FnX P w K mg base C (k + 1) xm n (xOf (mDef .frz (List.replicate n .frz) N.length y)) := by
  refine ⟨f, fd, ps, FnG.of_body F S (fun vs H Q E h => by rw [h.1, hpk]) (fun cdv A outer s H vs Q E room hg h => ?_), hm, F.kp, hb⟩
  obtain ⟨hl, O, ds, fr, ra, hxf, q⟩ := h
  have hl2 : vs.length = ps.length := by rw [hl, hpk]
  refine ⟨_, body cdv A outer s H E vs room hg hl2 (takes_of rfl rfl rfl rfl), ?_⟩
  have hd : ds.length = n := by rw [ra.length]; exact hl
  have I0 := EI.start (ks := ks) (ps := pinsOf [] vs) (n := N.length) (N := N) (frz_EI fr ra hd) rfl hks (by rw [List.length_replicate]; exact htk) (fun p hp => nomatch hp)
  unfold xOf at hxf
  split at hxf
  · rename_i outs h1
    unfold mDef at h1
    split at h1
    · rename_i d e h2
      obtain ⟨os, _, h3⟩ := Option.map_eq_some_iff.mp h1
      cases h3
      refine ⟨_, _, _, _, I0, h2, fun σ' F' H' S J => q H' fun a o e => S.keep a o e fun z => ?_⟩
      exact noF_rep (flat_pad.mp z)
    · rename_i e h2
      rw [if_pos rfl] at h1
      obtain ⟨os, _, h3⟩ := Option.map_eq_some_iff.mp h1
      cases h3
    · cases h1
  · cases hxf

section
variable {X : Cx} {CX : CXT} {k : Nat} {f : Addr} {fd : FuncData} {ps : List Str} {sp : Sp} {E : L2.St → XK} {x : Str} {p pos : Pos} {e : Expr} {es : List Expr} {t : TA}
theorem FnG.atS {pins : List (Addr × Obj)} {σ : L2.St} {H : Hp} {s : Shared} {Q : VK} {us : List Value} {vs : List V} (F : FnG X.prog X.w X.K X.mg X.base CX k f fd ps sp) (hr : Room k X.A) (hg : X.A.guards = some []) (hb : Binds X.K fd ps []) (hx : PassesAt CX X σ (E σ))
    (I : Inv X pins σ H s) (r : Vals vs us) (h : sp vs H Q (E σ)) : wpAny (model X.prog X.w) X.A (call (.ref f) us) (EP X pins σ Q) X.xe s := by
  have hl : us.length = ps.length := by rw [← r.length]; exact F.len _ _ _ _ h
  have hbt : BindsTo s fd ⟨us, []⟩ (ps.zip us) := by
    have := hb s us I.kIn (by rw [List.append_nil]; exact hl)
    rwa [List.append_nil] at this
  refine wpAny_call (codeAny_mono (F.run X.A X.stack s H ⟨us, []⟩ us vs Q (E σ) hr hg I.env0 hbt r h) ?_)
  intro res s' hq
  match res, hq with
  | .error e, hq => exact hx pins H s e s' I hq
  | .ok (.ret u), hq => exact I.after hq
  | .ok .next, hq => exact False.elim hq
  | .ok .brk, hq => exact False.elim hq
  | .ok .cont, hq => exact False.elim hq
theorem pg_callS (F : FnG X.prog X.w X.K X.mg X.base CX k f fd ps sp) (hr : Room k X.A) (hgd : X.A.guards = some []) (hg : Gl X x) (hm : X.mg x = some (.ref f)) (hk : PySem.W.keepIn X.K (.ref f) = true) (hb : Binds X.K fd ps []) (hx : ∀ σ, PassesAt CX X σ (E σ))
    (ha : PA X (e :: es) t) (hdb : (x == ("__debug__" : Str)) = false := by decide) (he : starEach (e :: es) X.env = (false, eval e X.env) :: starEach es X.env := by rfl) (hpl : (backTo pos (starEach es X.env)).any (·.1) = false := by rfl) :
    PE X (.Call (.Name x p) (e :: es) [] pos) (tCallS sp E t) := by
  constructor
  intro pins s σ H Q I h
  refine wpAny_Call_Name_kw (ld_glob I hg hm (PySem.W.callWith_K (h₀ := X.base) I.ok.mod.kin hk (thn (ha.run pos pins s σ H _ I h) ?_) he hpl) hdb)
  rintro us s1 ⟨vs, H1, I1, r, q⟩
  exact ⟨I1.kIn, F.atS hr hgd hb (hx σ) I1 r q⟩
end
section
variable {X : Cx} {ks : List Kd} {ps : List (Nat × V)} {W : WX} {C : Addr} {rk : Kd} {e c : Expr} {es : List Expr} {pos : Pos}
/-- return f(..), where f raises -/
theorem rs_retC {k n : Nat} {x : Str} {p p1 : Pos} {my : List PyData → Option (PyData × List PyData)} {ma : M (List Opd)} (F : FnX X.prog X.w X.K X.mg X.base C k x n (xOf my)) (hr : Room k X.A) (hgd : X.A.guards = some []) (hg : Gl X x)
    (tk : Takes X W) (ha : AoD X.nox ks ps (e :: es) ma) (hdb : (x == ("__debug__" : Str)) = false := by decide) (he : starEach (e :: es) X.env = (false, eval e X.env) :: starEach es X.env := by rfl) (hpl : (backTo p1 (starEach es X.env)).any (·.1) = false := by rfl) :
    YS X ks ps W C (.Return (some (.Call (.Name x p) (e :: es) [] p1)) pos) (sRet (mCall .frz n my ma)) := by
  obtain ⟨f, fd, ps', F1, hm, hk, hb⟩ := F
  refine PS.imp (ps_ret (pg_callS F1 hr hgd hg hm hk hb (fun σ => passAt tk σ) (PA.nox ha) hdb he hpl)) fun D σ H q => ?_
  obtain ⟨G, F, env, o, I, hm', q⟩ := q
  unfold sRet at hm'
  split at hm'
  case h_2 => cases hm'
  case h_1 =>
    rename_i d e' h0
    cases hm'
    obtain ⟨os, e1, h1, h2⟩ := bnd_some h0
    obtain ⟨rfl, ds, g1, g3, gi⟩ := rsK_some h2
    split at q
    · rename_i e2 heq
      cases heq
      have g3' : (if ds.length = n then Option.map (fun x => x.fst) (my ds) else none) = some (.bool true) := g3
      split at g3'
      · rename_i hn
        obtain ⟨⟨d', outs⟩, g4, g5⟩ := Option.map_eq_some_iff.mp g3'
        dsimp only at g5
        subst g5
        refine ⟨G, F, env, os, _, I, h1, fun vs F1 H1 S1 I1 r1 => ?_⟩
        have ra := HoldsA.rep I1 r1 g1
        refine ⟨by rw [← ra.length]; exact hn, _, ds, fresh_if I1, ra, by unfold xOf; rw [g4], fun H3 s3 => ?_⟩
        exact q σ F1 H3 (S1.trans (.same s3)) (I1.same s3)
      · cases g3'
    · rename_i heq; cases heq
    · exact q.elim
/-- try: body, except x: suite; y tells where the body raises -/
def sTry (y m mh : B) : B := fun e => match y e with
  | some (.rt (.bool true) e') => mh e'
  | some (.rt (.bool false) _) => m e
  | some (.nx _) => m e
  | _ => none
theorem sd_try {x : Str} {body suite : List Stmt} {b₀ : Stmt} {np pos' : Pos} {y m mh : B} (hs : X.stack = X.env :: X.outer) (hf : X.env.frame = some X.env.locals) (hg : Gl X x) (f : ExcF X.K X.mg x C) (tk : Takes X (fun _ _ _ _ => False))
    (hb : ∀ (pn : List (Addr × Obj)) (xe : Value → Shared → Prop), SsD (X.tr pn xe).nox ks ps rk body m)
    (hx : ∀ (W : WX) (pn : List (Addr × Obj)) (xe : Value → Shared → Prop), Takes (X.tr pn xe) W → YSs (X.tr pn xe) ks ps W C body y)
    (hsu : ∀ (a : Addr) (oe : Obj) (pn : List (Addr × Obj)), SsD (X.suite a ((a, oe) :: pn)) ks ps rk (b₀ :: suite) mh) (hdb : (x == ("__debug__" : Str)) = false := by decide) :
    SD X ks ps rk (.Try body [.ExceptHandler (some (.Name x np)) none (b₀ :: suite) pos'] [] [] pos) (sTry y m mh) := by
  refine PS.imp (ps_try_only (c := .ref C) (tb := fun W D σ H => tS X.K ks ps rk m D σ H ∨ tY X.K ks ps W C y D σ H) (ts := fun _ _ _ => tS X.K ks ps rk mh) hs hf ⟨hg, hdb, .inl f.gP⟩ tk
    (fun W pn xe tk _ => PSs.or (PSs.nox (hb pn xe)) (hx W pn xe tk)) (fun a oe cls d pn _ _ => hsu a oe pn)) fun D σ H q => ?_
  obtain ⟨G, F, env, o, I, hm, q⟩ := q
  unfold sTry at hm
  split at hm
  · rename_i e' h2
    refine .inr ⟨G, F, env, _, I, h2, fun σ1 F1 H1 S1 I1 => ⟨true, f.eP, fun _ a ha => ⟨G, F1, e', o, I1, hm, ?_⟩, fun z => nomatch z⟩⟩
    cases o with
    | nx e2 => exact fun σ' F' H' S J => q σ' F' H' (S1.trans S) J
    | bk e2 => exact fun σ' F' H' S J => q σ' F' H' (S1.trans S) J
    | ct e2 => exact fun σ' F' H' S J => q σ' F' H' (S1.trans S) J
    | rt d e2 => exact fun v σ' F' H' Fr S J ow n hF => q v σ' F' H' Fr (S1.trans S) J ow n fun a ha => ⟨(hF a ha).1, S1.nw (hF a ha).2⟩
  · exact .inl ⟨G, F, env, _, I, hm, q⟩
  · exact .inl ⟨G, F, env, _, I, hm, q⟩
  · cases hm
end
end DL

/-! DLY: dicts of one's own: a store, a look, whether a key is there. -/
namespace DL
open PySem PySem.Spec PyProof.Rows L2

def keq1 : PyData → PyData → Bool
  | .int a, .int b => decide (a = b)
  | .str a, .str b => decide (a = b)
  | _, _ => false
def keqA : List PyData → List PyData → Bool
  | [], [] => true
  | x :: xs, y :: ys => keq1 x y && keqA xs ys
  | _, _ => false
def keq : PyData → PyData → Bool
  | .tuple xs, .tuple ys => keqA xs ys
  | x, y => keq1 x y
def isK : PyData → Bool
  | .int _ => true
  | .str _ => true
  | _ => false
def isT : PyData → Bool
  | .tuple ds => ds.all isK && !kt (.tuple ds)
  | _ => false
def kOk : Kd → PyData → Bool
  | .dk, d => isK d
  | .dt, d => isT d
  | _, _ => false
def valD (kvs : List (PyData × PyData)) (k : PyData) : Option PyData := (kvs.find? fun p => keq p.1 k).map (·.2)
def hasD (kvs : List (PyData × PyData)) (k : PyData) : Bool := kvs.any fun p => keq p.1 k
def putD (kvs : List (PyData × PyData)) (k v : PyData) : List (PyData × PyData) := if hasD kvs k = true then kvs.map (fun p => if keq p.1 k = true then (p.1, v) else p) else kvs ++ [(k, v)]

theorem keq1_k (a b : L2.Key) : keq1 (kD a) (kD b) = decide (a = b) := by
  cases a <;> cases b <;> simp [kD, keq1]
theorem keq_k (a b : L2.Key) : keq (kD a) (kD b) = decide (a = b) := by
  rw [← keq1_k]
  cases a <;> cases b <;> rfl
theorem keqA_k : ∀ (a b : List L2.Key), keqA (a.map kD) (b.map kD) = decide (a = b)
  | [], [] => by simp [keqA]
  | [], _ :: _ => by simp [keqA]
  | _ :: _, [] => by simp [keqA]
  | x :: a, y :: b => by
    simp only [List.map_cons, keqA, keq1_k, keqA_k a b]
    by_cases h1 : x = y <;> by_cases h2 : a = b <;> simp [h1, h2]
theorem keq_t (a b : List L2.Key) : keq (tpD a) (tpD b) = decide (a = b) := keqA_k a b
theorem isK_ex {d : PyData} (h : isK d = true) : ∃ k, d = kD k := by
  cases d with
  | int i => exact ⟨.inl i, rfl⟩
  | str x => exact ⟨.inr x, rfl⟩
  | _ => cases h
theorem isKs_ex : ∀ {ds : List PyData}, ds.all isK = true → ∃ k, ds = List.map kD k
  | [], _ => ⟨[], rfl⟩
  | d :: ds, h => by
    rw [List.all_cons, Bool.and_eq_true] at h
    obtain ⟨k, rfl⟩ := isK_ex h.1
    obtain ⟨r, rfl⟩ := isKs_ex h.2
    exact ⟨k :: r, rfl⟩
theorem isT_ex {d : PyData} (h : isT d = true) : ∃ k, d = tpD k ∧ kt d = false := by
  cases d with
  | tuple ds =>
    unfold isT at h
    rw [Bool.and_eq_true] at h
    obtain ⟨k, rfl⟩ := isKs_ex h.1
    exact ⟨k, rfl, by simpa using h.2⟩
  | _ => cases h
section
variable {K : PySem.W.Frag} {H : Hp} {O : Addr → Prop}
theorem rep_kD {k : L2.Key} {v : V} (h : Rep K H O (kD k) v) : v = kV k := by
  cases k with
  | inl i => simp only [kD, Rep] at h; exact h
  | inr x => simp only [kD, Rep] at h; exact h
theorem repA_kD : ∀ {k : List L2.Key} {vs : List V}, RepA K H O (k.map kD) vs → vs = k.map kV
  | [], vs, h => by simpa only [List.map_nil, RepA] using h
  | a :: k, vs, h => by
    simp only [List.map_cons, RepA] at h
    obtain ⟨x, r, rfl, h1, h2⟩ := h
    rw [rep_kD h1, repA_kD h2]; rfl
theorem rep_tpD {k : List L2.Key} {v : V} (hk : kt (tpD k) = false) (h : Rep K H O (tpD k) v) : ∃ b, v = .ref b ∧ H b = some (.tup (k.map kV)) := by
  unfold tpD at h hk
  simp only [Rep] at h
  obtain ⟨b, xs, rfl, h1, h2⟩ := h
  rcases h1 with h1 | h1
  · exact ⟨b, rfl, by rw [h1, repA_kD h2]⟩
  · rw [hk] at h1; exact absurd h1.2 (by decide)
end
section
variable {K : PySem.W.Frag} {H : Hp} {O : Addr → Prop} {κ : Type} [DecidableEq κ] {em : κ → PyData}
theorem val_rel (he : ∀ a b, keq (em a) (em b) = decide (a = b)) (k : κ) : ∀ {kvs : List (PyData × PyData)} {l : List (κ × V)}, kvs.map (·.1) = l.map (fun p => em p.1) → RepV K H O kvs (l.map (·.2)) →
    (valD kvs (em k) = none ∧ valV l k = none) ∨ ∃ d v, valD kvs (em k) = some d ∧ valV l k = some v ∧ Rep K H O d v
  | [], [], _, _ => .inl ⟨rfl, rfl⟩
  | [], _ :: _, h, _ => by simp at h
  | _ :: _, [], h, _ => by simp at h
  | (k0, d) :: kvs, (k1, v) :: l, h, r => by
    simp only [List.map_cons, List.cons.injEq] at h
    obtain ⟨rfl, h⟩ := h
    simp only [List.map_cons, RepV] at r
    obtain ⟨x, t, e, r1, r2⟩ := r
    cases e
    unfold valD valV
    rw [List.find?_cons, List.find?_cons, he]
    by_cases q : k1 = k
    · simp only [q, decide_true, Option.map_some]
      exact .inr ⟨d, v, rfl, rfl, r1⟩
    · simp only [q, decide_false]
      exact val_rel he k h r2
theorem has_rel (he : ∀ a b, keq (em a) (em b) = decide (a = b)) (k : κ) : ∀ {kvs : List (PyData × PyData)} {l : List (κ × V)}, kvs.map (·.1) = l.map (fun p => em p.1) → hasD kvs (em k) = l.any fun kv => decide (kv.1 = k)
  | [], [], _ => rfl
  | [], _ :: _, h => by simp at h
  | _ :: _, [], h => by simp at h
  | (k0, d) :: kvs, (k1, v) :: l, h => by
    simp only [List.map_cons, List.cons.injEq] at h
    obtain ⟨rfl, h⟩ := h
    unfold hasD
    rw [List.any_cons, List.any_cons, he]
    congr 1
    exact has_rel he k h
theorem map_rel (he : ∀ a b, keq (em a) (em b) = decide (a = b)) (k : κ) {y : PyData} {w : V} (hy : Rep K H O y w) : ∀ {kvs : List (PyData × PyData)} {l : List (κ × V)}, kvs.map (·.1) = l.map (fun p => em p.1) → RepV K H O kvs (l.map (·.2)) →
    (kvs.map fun p => if keq p.1 (em k) = true then (p.1, y) else p).map (·.1) = (l.map fun kv => if kv.1 = k then (kv.1, w) else kv).map (fun p => em p.1) ∧
    RepV K H O (kvs.map fun p => if keq p.1 (em k) = true then (p.1, y) else p) ((l.map fun kv => if kv.1 = k then (kv.1, w) else kv).map (·.2))
  | [], [], _, _ => ⟨rfl, by simp only [List.map_nil, RepV]⟩
  | [], _ :: _, h, _ => by simp at h
  | _ :: _, [], h, _ => by simp at h
  | (k0, d) :: kvs, (k1, v) :: l, h, r => by
    simp only [List.map_cons, List.cons.injEq] at h
    obtain ⟨rfl, h⟩ := h
    simp only [List.map_cons, RepV] at r
    obtain ⟨x, t, e, r1, r2⟩ := r
    cases e
    obtain ⟨i1, i2⟩ := map_rel he k hy h r2
    simp only [List.map_cons, he, decide_eq_true_eq]
    by_cases q : k1 = k
    · simp only [q, if_true]
      exact ⟨by rw [i1], by simp only [RepV]; exact ⟨_, _, rfl, hy, i2⟩⟩
    · simp only [q, if_false]
      exact ⟨by rw [i1], by simp only [RepV]; exact ⟨_, _, rfl, r1, i2⟩⟩
theorem put_rel (he : ∀ a b, keq (em a) (em b) = decide (a = b)) (k : κ) {y : PyData} {w : V} (hy : Rep K H O y w) {kvs : List (PyData × PyData)} {l : List (κ × V)} (h : kvs.map (·.1) = l.map (fun p => em p.1)) (r : RepV K H O kvs (l.map (·.2))) :
    (putD kvs (em k) y).map (·.1) = (putK l k w).map (fun p => em p.1) ∧ RepV K H O (putD kvs (em k) y) ((putK l k w).map (·.2)) := by
  unfold putD putK
  rw [has_rel he k h]
  by_cases q : (l.any fun kv => decide (kv.1 = k)) = true
  · rw [if_pos q, if_pos q]
    exact map_rel he k hy h r
  · rw [if_neg q, if_neg q]
    refine ⟨by rw [List.map_append, List.map_append, h]; rfl, ?_⟩
    rw [RepV_iff] at r ⊢
    rw [List.map_append, List.map_append]
    exact r.append (.cons hy .nil)
end

def dctAt (i : Nat) (e : Ev) : Option (List (PyData × PyData)) := match e[i]? with
  | some (some (.dict kvs)) => some kvs
  | _ => none
theorem dctAt_some {i : Nat} {e : Ev} {kvs : List (PyData × PyData)} (h : dctAt i e = some kvs) : e[i]? = some (some (.dict kvs)) := by
  unfold dctAt at h
  split at h
  · cases h; assumption
  · cases h
section
variable {rk : Kd} {X : Cx} {ks : List Kd} {ps : List (Nat × V)} {a b c e o : Expr} {es : List Expr} {pos pos' : Pos}
/-- a look at an own dict -/
theorem EI.dget {K : PySem.W.Frag} {G : Addr → Prop} {F : List (List Addr)} {σ : L2.St} {H : Hp} {env : Ev} {i : Nat} {kd : Kd} {kvs : List (PyData × PyData)} {k : PyData} {y : V} (I : EI K ks ps G F σ H env) (h : dctAt i env = some kvs) (hk : ks[i]? = some kd) (ok : kOk kd k = true) (hr : Rep K H (OO G F) k y) :
    ∃ ad o, σ[i]? = some (some (.ref ad)) ∧ DGet H ad y o ∧ ((valD kvs k = none ∧ o = none) ∨ ∃ d v, valD kvs k = some d ∧ o = some v ∧ Rep K H (OO G F) d v) := by
  obtain ⟨w, Fi, hσ, hF, ow⟩ := I.sl i _ _ (dctAt_some h) hk
  cases kd with
  | dk =>
    obtain ⟨ad, kvs', l, rfl, e5, rfl, e6, e7, rv⟩ := ow
    cases e5
    obtain ⟨κ, rfl⟩ := isK_ex ok
    have ey := rep_kD hr
    subst ey
    refine ⟨ad, _, hσ, DGet.k e6, ?_⟩
    exact val_rel keq_k κ e7 rv
  | dt =>
    obtain ⟨ad, kvs', l, rfl, e5, rfl, e6, e7, rv⟩ := ow
    cases e5
    obtain ⟨κ, rfl, hkt⟩ := isT_ex ok
    obtain ⟨b, rfl, hb⟩ := rep_tpD hkt hr
    refine ⟨ad, _, hσ, DGet.t e6 hb, ?_⟩
    exact val_rel keq_t κ e7 rv
  | _ => cases ok
theorem valD_has {kvs : List (PyData × PyData)} {k : PyData} : (valD kvs k).isSome = hasD kvs k := by
  unfold valD hasD
  rw [Option.isSome_map, Bool.eq_iff_iff, List.find?_isSome, List.any_eq_true]
/-- k in x, k not in x -/
def mDIn (kd : Kd) (i : Nat) (m : M PyData) : M PyData := fun e => match m e with
  | none => none
  | some (k, e1) => match dctAt i e1 with
    | none => none
    | some kvs => if kOk kd k = true then some (.bool (hasD kvs k), e1) else none
def mDNotIn (kd : Kd) (i : Nat) (m : M PyData) : M PyData := fun e => match m e with
  | none => none
  | some (k, e1) => match dctAt i e1 with
    | none => none
    | some kvs => if kOk kd k = true then some (.bool (!hasD kvs k), e1) else none
def mDGet (kd : Kd) (i : Nat) (m : M PyData) : M PyData := fun e => match dctAt i e with
  | none => none
  | some _ => match m e with
    | none => none
    | some (k, e1) => match dctAt i e1 with
      | none => none
      | some kvs => if kOk kd k = true then (match valD kvs k with
        | some d => some (d, e1)
        | none => none) else none
theorem pc_In {i : Nat} {kd : Kd} {x : Str} {m : M PyData} {p : Pos} (hu : X.A.units + 1 < cLine) (hN : X.N[i]? = some x) (hk : ks[i]? = some kd) (he : ED X ks ps e m) (hv : Vis X.env.scope x := by first | exact Or.inl rfl | exact Or.inr (Or.inl rfl) | exact Or.inr (Or.inr rfl))
    (hd : (x == ("__debug__" : Str)) = false := by decide) (hcd : (x == ("__classdict__" : Str)) = false := by decide) : PC X .In e (.Name x p) (tD X.K ks ps (mDIn kd i m)) := by
  refine ⟨fun pins s σ H Q I0 q => (pc_din hu he (pe_var hN hv hd hcd)).run pins s σ H Q I0 ?_⟩
  obtain ⟨G, F, env, d, env', I, hm, q⟩ := q
  unfold mDIn at hm
  split at hm
  · cases hm
  · rename_i k e1 g1
    split at hm
    · cases hm
    · rename_i kvs g2
      split at hm
      · rename_i ok
        cases hm
        refine ⟨G, F, env, k, _, I, g1, fun y F1 H1 S1 I1 r1 => ?_⟩
        obtain ⟨ad, o, hσ, dg, hv⟩ := I1.dget g2 hk ok r1
        refine ⟨_, hσ, ad, o, rfl, dg, ?_⟩
        refine q _ F1 H1 S1 I1 ?_
        simp only [Rep, V.bl.injEq]
        rw [← valD_has]
        rcases hv with ⟨h1, h2⟩ | ⟨d, v, h1, h2, _⟩ <;> rw [h1, h2] <;> rfl
      · cases hm
theorem pc_NotIn {i : Nat} {kd : Kd} {x : Str} {m : M PyData} {p : Pos} (hu : X.A.units + 1 < cLine) (hN : X.N[i]? = some x) (hk : ks[i]? = some kd) (he : ED X ks ps e m) (hv : Vis X.env.scope x := by first | exact Or.inl rfl | exact Or.inr (Or.inl rfl) | exact Or.inr (Or.inr rfl))
    (hd : (x == ("__debug__" : Str)) = false := by decide) (hcd : (x == ("__classdict__" : Str)) = false := by decide) : PC X .NotIn e (.Name x p) (tD X.K ks ps (mDNotIn kd i m)) := by
  refine ⟨fun pins s σ H Q I0 q => (pc_dnotin hu he (pe_var hN hv hd hcd)).run pins s σ H Q I0 ?_⟩
  obtain ⟨G, F, env, d, env', I, hm, q⟩ := q
  unfold mDNotIn at hm
  split at hm
  · cases hm
  · rename_i k e1 g1
    split at hm
    · cases hm
    · rename_i kvs g2
      split at hm
      · rename_i ok
        cases hm
        refine ⟨G, F, env, k, _, I, g1, fun y F1 H1 S1 I1 r1 => ?_⟩
        obtain ⟨ad, o, hσ, dg, hv⟩ := I1.dget g2 hk ok r1
        refine ⟨_, hσ, ad, o, rfl, dg, ?_⟩
        refine q _ F1 H1 S1 I1 ?_
        simp only [Rep, V.bl.injEq]
        rw [← valD_has]
        rcases hv with ⟨h1, h2⟩ | ⟨d, v, h1, h2, _⟩ <;> rw [h1, h2] <;> rfl
      · cases hm
theorem ed_dIn {i : Nat} {kd : Kd} {x : Str} {m : M PyData} {p : Pos} (hu : X.A.units + 1 < cLine) (hN : X.N[i]? = some x) (hk : ks[i]? = some kd) (he : ED X ks ps e m) (hv : Vis X.env.scope x := by first | exact Or.inl rfl | exact Or.inr (Or.inl rfl) | exact Or.inr (Or.inr rfl))
    (hd : (x == ("__debug__" : Str)) = false := by decide) (hcd : (x == ("__classdict__" : Str)) = false := by decide) : ED X ks ps (.Compare e [.In] [.Name x p] pos) (mDIn kd i m) := pe_cmp (pc_In hu hN hk he hv hd hcd) rfl
theorem ed_dNotIn {i : Nat} {kd : Kd} {x : Str} {m : M PyData} {p : Pos} (hu : X.A.units + 1 < cLine) (hN : X.N[i]? = some x) (hk : ks[i]? = some kd) (he : ED X ks ps e m) (hv : Vis X.env.scope x := by first | exact Or.inl rfl | exact Or.inr (Or.inl rfl) | exact Or.inr (Or.inr rfl))
    (hd : (x == ("__debug__" : Str)) = false := by decide) (hcd : (x == ("__classdict__" : Str)) = false := by decide) : ED X ks ps (.Compare e [.NotIn] [.Name x p] pos) (mDNotIn kd i m) := pe_cmp (pc_NotIn hu hN hk he hv hd hcd) rfl
theorem pt_bool {m : M PyData} {op : CmpOp} (h : PC X op a b (tD X.K ks ps m)) (h1 : behindInMarks op b = false) : TD X ks ps (.Compare a [op] [b] pos) (mTest m) :=
  PT.imp (pt_cmp h h1) fun σ H Q q => by
    obtain ⟨G, F, env, d, env', I, hm, q⟩ := q
    obtain ⟨x, e1, h1, h2⟩ := bnd_some hm
    obtain ⟨h2, rfl⟩ := lft_some h2
    refine ⟨G, F, env, x, env', I, h1, fun v F' H' S J r => ?_⟩
    cases x with
    | bool k =>
      cases h2
      simp only [Rep] at r
      exact ⟨_, r, q F' H' S J⟩
    | _ => cases h2
theorem td_dIn {i : Nat} {kd : Kd} {x : Str} {m : M PyData} {p : Pos} (hu : X.A.units + 1 < cLine) (hN : X.N[i]? = some x) (hk : ks[i]? = some kd) (he : ED X ks ps e m) (hv : Vis X.env.scope x := by first | exact Or.inl rfl | exact Or.inr (Or.inl rfl) | exact Or.inr (Or.inr rfl))
    (hd : (x == ("__debug__" : Str)) = false := by decide) (hcd : (x == ("__classdict__" : Str)) = false := by decide) : TD X ks ps (.Compare e [.In] [.Name x p] pos) (mTest (mDIn kd i m)) := pt_bool (pc_In hu hN hk he hv hd hcd) rfl
theorem td_dNotIn {i : Nat} {kd : Kd} {x : Str} {m : M PyData} {p : Pos} (hu : X.A.units + 1 < cLine) (hN : X.N[i]? = some x) (hk : ks[i]? = some kd) (he : ED X ks ps e m) (hv : Vis X.env.scope x := by first | exact Or.inl rfl | exact Or.inr (Or.inl rfl) | exact Or.inr (Or.inr rfl))
    (hd : (x == ("__debug__" : Str)) = false := by decide) (hcd : (x == ("__classdict__" : Str)) = false := by decide) : TD X ks ps (.Compare e [.NotIn] [.Name x p] pos) (mTest (mDNotIn kd i m)) := pt_bool (pc_NotIn hu hN hk he hv hd hcd) rfl
theorem ed_dGet {i : Nat} {kd : Kd} {x : Str} {m : M PyData} {p : Pos} (hu : X.A.units + 1 < cLine) (hN : X.N[i]? = some x) (hk : ks[i]? = some kd) (he : ED X ks ps e m) (hs : NoSl e := by intros; rfl) (hv : Vis X.env.scope x := by first | exact Or.inl rfl | exact Or.inr (Or.inl rfl) | exact Or.inr (Or.inr rfl))
    (hd : (x == ("__debug__" : Str)) = false := by decide) (hcd : (x == ("__classdict__" : Str)) = false := by decide) : ED X ks ps (.Subscript (.Name x p) e pos) (mDGet kd i m) :=
  PE.imp (pe_dget hu (pe_var hN hv hd hcd) he hs) fun σ H Q q => by
    obtain ⟨G, F, env, d, env', I, hm, q⟩ := q
    unfold mDGet at hm
    split at hm
    · cases hm
    · rename_i kvs0 g0
      split at hm
      · cases hm
      · rename_i k e1 g1
        split at hm
        · cases hm
        · rename_i kvs g2
          split at hm
          · rename_i ok
            split at hm
            · rename_i dv g3
              cases hm
              obtain ⟨w, Fi, hσ, hF, ow⟩ := I.sl i _ _ (dctAt_some g0) hk
              refine ⟨w, hσ, G, F, env, k, _, I, g1, fun y F1 H1 S1 I1 r1 => ?_⟩
              obtain ⟨ad, o, hσ', dg, hv⟩ := I1.dget g2 hk ok r1
              rw [hσ] at hσ'
              cases hσ'
              rcases hv with ⟨h1, _⟩ | ⟨d', v, h1, rfl, hr⟩
              · rw [g3] at h1; cases h1
              · rw [g3] at h1; cases h1
                exact ⟨ad, v, rfl, dg, q v F1 H1 S1 I1 hr⟩
            · cases hm
          · cases hm
/-- x[k] = e -/
def sDPut (kd : Kd) (i : Nat) (me mi : M PyData) : B := fun e => match me e with
  | none => none
  | some (y, e1) => match dctAt i e1 with
    | none => none
    | some kvs => match mi (e1.set i none) with
      | some (k, e2) => if kOk kd k = true ∧ kvs.length ≤ 1000000 then some (.nx (e2.set i (some (.dict (putD kvs k y))))) else none
      | none => none
theorem sd_dPut {i : Nat} {kd : Kd} {x : Str} {p1 p2 : Pos} {me mi : M PyData} {ix : Expr} (hu : X.A.units + 1 < cLine) (hN : X.N[i]? = some x) (hk : ks[i]? = some kd) (he : ED X ks ps e me) (hi : ED X ks ps ix mi) (hv : Vis X.env.scope x := by first | exact Or.inl rfl | exact Or.inr (Or.inl rfl) | exact Or.inr (Or.inr rfl))
    (hd : (x == ("__debug__" : Str)) = false := by decide) (hcd : (x == ("__classdict__" : Str)) = false := by decide)
    (hs : swapsWith e (some (.Subscript (.Name x p1) ix p2)) pos.line X.env = pure false := by rfl) :
    SD X ks ps rk (.Assign [.Subscript (.Name x p1) ix p2] e pos) (DL.sDPut kd i me mi) :=
  PS.imp (ps_dput hu (pe_var hN hv hd hcd) hi he hs) fun D σ H q => by
    obtain ⟨G, F, env, out, I, hm, q⟩ := q
    unfold DL.sDPut at hm
    split at hm
    · cases hm
    · rename_i y e1 g1
      split at hm
      · cases hm
      · rename_i kvs g2
        split at hm
        · rename_i k e2 g3
          split at hm
          · rename_i g4
            obtain ⟨ok, hl⟩ := g4
            cases hm
            refine ⟨G, F, env, y, e1, I, g1, fun v F1 H1 S1 I1 r1 => ?_⟩
            have hne : kd ≠ .frz := by rintro rfl; cases ok
            obtain ⟨w, Fi, hσ, J, o, less, hnd, back⟩ := I1.lent (dctAt_some g2) hk hne
            refine ⟨w, hσ, _, F1.set i [], _, k, e2, J, g3, fun u F2 H2 S2 J2 r2 => ?_⟩
            obtain ⟨o2, kf, _, less2, put⟩ := back F2 H2 e2 S2 J2
            have hl' : ∀ n : Nat, n = kvs.length → n < sizeLine := fun n e => by rw [e]; exact Nat.lt_of_le_of_lt hl (by rw [sizeLine_eq]; decide)
            cases kd with
            | dk =>
              obtain ⟨ad, kvs', l, rfl, e5, rfl, e6, e7, rv⟩ := o2
              cases e5
              obtain ⟨κ, rfl⟩ := isK_ex ok
              have ey := rep_kD r2
              subst ey
              have kp : ∀ o', Kp (OO (fun a => G a ∨ a ∈ [ad]) F2) H2 (OO (fun a => G a ∨ a ∈ [ad]) F2) (upd H2 ad o') := fun o' => Kp.put (.inl (.inr (List.mem_singleton.mpr rfl))) e6
              have rv' : Rep X.K H2 (OO (fun a => G a ∨ a ∈ [ad]) F2) y v := Rep.kp ((Kp.less less).trans (S2.kp (G := fun a => G a ∨ a ∈ [ad]))) r1
              obtain ⟨p1, p2⟩ := put_rel keq_k κ rv' e7 rv
              refine ⟨ad, _, rfl, DPut.k e6 (hl' _ (by have := congrArg List.length e7; simpa using this.symm)), ?_⟩
              obtain ⟨J3, S3⟩ := put ad _ (.dK (putK l κ v)) (.dict (putD kvs (kD κ) y)) (List.mem_singleton.mpr rfl) e6 trivial ⟨ad, _, _, rfl, rfl, rfl, upd_same, p1, RepV.kp (kp _) p2⟩
              exact q _ _ _ (S1.trans S3) J3
            | dt =>
              obtain ⟨ad, kvs', l, rfl, e5, rfl, e6, e7, rv⟩ := o2
              cases e5
              obtain ⟨κ, rfl, hkt⟩ := isT_ex ok
              obtain ⟨b, rfl, hb⟩ := rep_tpD hkt r2
              have kp : ∀ o', Kp (OO (fun a => G a ∨ a ∈ [ad]) F2) H2 (OO (fun a => G a ∨ a ∈ [ad]) F2) (upd H2 ad o') := fun o' => Kp.put (.inl (.inr (List.mem_singleton.mpr rfl))) e6
              have rv' : Rep X.K H2 (OO (fun a => G a ∨ a ∈ [ad]) F2) y v := Rep.kp ((Kp.less less).trans (S2.kp (G := fun a => G a ∨ a ∈ [ad]))) r1
              obtain ⟨p1, p2⟩ := put_rel keq_t κ rv' e7 rv
              refine ⟨ad, _, rfl, DPut.t e6 hb (hl' _ (by have := congrArg List.length e7; simpa using this.symm)), ?_⟩
              obtain ⟨J3, S3⟩ := put ad _ (.dT (putK l κ v)) (.dict (putD kvs (tpD κ) y)) (List.mem_singleton.mpr rfl) e6 trivial ⟨ad, _, _, rfl, rfl, rfl, upd_same, p1, RepV.kp (kp _) p2⟩
              exact q _ _ _ (S1.trans S3) J3
            | _ => cases ok
          · cases hm
        · cases hm
/-- xs[::-1], new, also of an own list -/
def mRevS (ma : M Opd) : M PyData := bnd ma fun x => fun e => match x.get e with
  | some (.list xs) => some (.list xs.reverse, e)
  | _ => none
theorem fd_revS {k : Nat} {p1 p2 p3 : Pos} {m : M Opd} (ha : RD X ks ps a m) (sa : SlotOk ks m) : FD X ks ps .l1 (.Subscript a (.Slice none none (some (.UnaryOp .USub (.Constant (.int 1) k p1) p2)) p3) pos) (mRevS m) :=
  PE.imp (pe_revL ha) fun σ H Q q => by
    obtain ⟨G, F, env, d, env', I, hm, q⟩ := q
    obtain ⟨x, e1, h1, h2⟩ := bnd_some hm
    split at h2
    · rename_i xs g1
      cases h2
      refine ⟨G, F, env, x, _, I, h1, fun v F1 H1 S1 I1 r1 => ?_⟩
      obtain ⟨l, vs, rfl, q1, a1⟩ := HoldsO.lst (sa _ _ _ h1) I1 r1 g1
      exact ⟨l, vs, rfl, q1, fun p hp => new_l1 S1 I1 a1.reverse hp q⟩
    · cases h2
theorem ed_revS {k : Nat} {p1 p2 p3 : Pos} {m : M Opd} (ha : RD X ks ps a m) (sa : SlotOk ks m) : ED X ks ps (.Subscript a (.Slice none none (some (.UnaryOp .USub (.Constant (.int 1) k p1) p2)) p3) pos) (mRevS m) := ed_own (fd_revS ha sa)
end
end DL

/-! TYA: mirrors read as plain typed functions. What a def's names hold is known slot by slot (Mt); XP: an expression of a type; XS: one that draws on a state (the source); XB: a block. -/
namespace DL
open PySem PySem.Spec PyProof.Rows L2

abbrev SL := List (Option (Option PyData))
structure Mt (e : Ev) (L : SL) : Prop where
  len : e.length = L.length
  at_ : ∀ (i : Nat) x, L[i]? = some (some x) → e[i]? = some x
def LEs : SL → SL → Prop
  | [], [] => True
  | none :: a, _ :: b => LEs a b
  | some x :: a, y :: b => y = some x ∧ LEs a b
  | _, _ => False
section
variable {e : Ev} {L L' : SL}
theorem Mt.set (h : Mt e L) (i : Nat) (x : Option PyData) : Mt (e.set i x) (L.set i (some x)) where
  len := by simp [h.len]
  at_ := fun j y hj => by
    rw [List.getElem?_set] at hj ⊢
    by_cases hij : i = j
    · subst hij
      simp only [if_pos] at hj ⊢
      split at hj
      · cases hj; rename_i hl; rw [if_pos (by rw [h.len]; exact hl)]
      · cases hj
    · rw [if_neg hij] at hj ⊢
      exact h.at_ j y hj
theorem Mt.fog (h : Mt e L) (i : Nat) (x : Option PyData) : Mt (e.set i x) (L.set i none) where
  len := by simp [h.len]
  at_ := fun j y hj => by
    rw [List.getElem?_set] at hj ⊢
    by_cases hij : i = j
    · subst hij
      simp only [if_pos] at hj ⊢
      split at hj <;> cases hj
    · rw [if_neg hij] at hj ⊢
      exact h.at_ j y hj
theorem LEs.get : ∀ {L' L : SL}, LEs L' L → L'.length = L.length ∧ ∀ (i : Nat) x, L'[i]? = some (some x) → L[i]? = some (some x)
  | [], [], _ => ⟨rfl, fun _ _ h => h⟩
  | none :: a, y :: b, h => by
    obtain ⟨l, g⟩ := LEs.get (L' := a) (L := b) h
    refine ⟨by simp [l], fun i x hi => ?_⟩
    cases i with
    | zero => simp at hi
    | succ i => rw [List.getElem?_cons_succ] at hi ⊢; exact g i x hi
  | some z :: a, y :: b, h => by
    obtain ⟨l, g⟩ := LEs.get (L' := a) (L := b) h.2
    have h1 : y = some z := h.1
    refine ⟨by simp [l], fun i x hi => ?_⟩
    cases i with
    | zero => rw [List.getElem?_cons_zero] at hi ⊢; rw [h1]; exact hi
    | succ i => rw [List.getElem?_cons_succ] at hi ⊢; exact g i x hi
  | [], _ :: _, h => h.elim
  | none :: _, [], h => h.elim
  | some _ :: _, [], h => h.elim
theorem Mt.weak (h : Mt e L) (w : LEs L' L) : Mt e L' := ⟨h.len.trans w.get.1.symm, fun i x hi => h.at_ i x (w.get.2 i x hi)⟩
theorem LEs.refl : ∀ {L : SL}, LEs L L
  | [] => trivial
  | none :: a => LEs.refl (L := a)
  | some _ :: a => ⟨rfl, LEs.refl (L := a)⟩
end
/-- targets' slots are wiped, and put back -/
def wipeL (L : SL) : List Nat → SL
  | [] => L
  | v :: vs => (wipeL L vs).set v (some none)
theorem Mt.wipe {e : Ev} {L : SL} (h : Mt e L) : ∀ vs : List Nat, Mt (wipeE e vs) (wipeL L vs)
  | [] => h
  | v :: vs => (Mt.wipe h vs).set v none
theorem wipeL_get {L : SL} : ∀ {vs : List Nat} {i : Nat}, i ∉ vs → (wipeL L vs)[i]? = L[i]?
  | [], i, _ => rfl
  | v :: vs, i, h => by
    unfold wipeL
    rw [List.getElem?_set_ne (fun z => h (by rw [z]; exact List.mem_cons_self)), wipeL_get fun z => h (List.mem_cons_of_mem _ z)]
theorem wipeL_len {L : SL} : ∀ vs : List Nat, (wipeL L vs).length = L.length
  | [] => rfl
  | v :: vs => by unfold wipeL; rw [List.length_set]; exact wipeL_len vs
/-- after a comprehension: what is known of the targets is what was known ahead of it -/
theorem Mt.back {e e2 : Ev} {L L2 : SL} {vs : List Nat} (h : Mt e L) (h2 : Mt e2 (wipeL L2 vs)) (hl : L.length = L2.length) (hv : ∀ i ∈ vs, ∀ x, L2[i]? = some (some x) → L[i]? = some (some x)) : Mt (backE e e2 vs) L2 where
  len := by rw [backE_len, h2.len, wipeL_len]
  at_ := fun i x hi => by
    rw [backE_get]
    have he : e2.length = L2.length := by rw [h2.len, wipeL_len]
    by_cases hm : i ∈ vs
    · have hl2 : i < L2.length := (List.getElem?_eq_some_iff.mp hi).1
      rw [if_pos ⟨hm, by omega⟩]
      have := h.at_ i x (hv i hm x hi)
      rw [List.getD_eq_getElem?_getD, this]
      rfl
    · rw [if_neg fun z => hm z.1]
      exact h2.at_ i x (by rw [wipeL_get hm]; exact hi)
/-! ### types -/
abbrev eI : Int → PyData := .int
abbrev eB : Bool → PyData := .bool
abbrev eS : Str → PyData := .str
abbrev eA : PyData → PyData := id
abbrev eN : Unit → PyData := fun _ => .none
section
variable {α β : Type}
abbrev eL (e : α → PyData) (l : List α) : PyData := .list (l.map e)
abbrev eT (e : α → PyData) (l : List α) : PyData := .tuple (l.map e)
abbrev eTu (f : α → List PyData) (v : α) : PyData := .tuple (f v)
abbrev f1 (e : α → PyData) (v : α) : List PyData := [e v]
abbrev fC (e : α → PyData) (f : β → List PyData) (v : α × β) : List PyData := e v.1 :: f v.2
abbrev f0 (_ : Unit) : List PyData := []
def eO (e : α → PyData) : Option α → PyData
  | none => .none
  | some v => e v
end
abbrev eX : Src → PyData := srcDt
def ImmE {α : Type} (e : α → PyData) : Prop := ∀ v, imm (e v) = true
def ImmF {α : Type} (f : α → List PyData) : Prop := ∀ v, immA (f v) = true
section
variable {α β : Type} {e : α → PyData} {f : β → List PyData}
theorem immI : ImmE eI := fun _ => rfl
theorem immB : ImmE eB := fun _ => rfl
theorem immS : ImmE eS := fun _ => rfl
theorem immN : ImmE eN := fun _ => rfl
theorem immT (h : ImmE e) : ImmE (eT e) := fun v => by
  show immA (v.map e) = true
  exact immA_all fun d hd => by obtain ⟨x, _, rfl⟩ := List.mem_map.mp hd; exact h x
theorem immTu (h : ImmF f) : ImmE (eTu f) := h
theorem imm1 (h : ImmE e) : ImmF (f1 e) := fun v => by show (imm (e v) && true) = true; rw [h v]; rfl
theorem immC (h : ImmE e) (h2 : ImmF f) : ImmF (fC e f) := fun v => by show (imm (e v.1) && immA (f v.2)) = true; rw [h v.1, h2 v.2]; rfl
theorem immO (h : ImmE e) : ImmE (eO e) := fun v => by cases v with | none => rfl | some x => exact h x
end
/-- equality of data is equality of values -/
structure EqE {α : Type} [DecidableEq α] (e : α → PyData) : Prop where
  eq : ∀ a b, PyData.eqv (e a) (e b) = decide (a = b)
  lay : ∀ a, (e a).canLay0 = true
  dep : ∃ n, n ≤ 60 ∧ ∀ a, (e a).depth ≤ n
structure EqF {α : Type} [DecidableEq α] (f : α → List PyData) (n : Nat) : Prop where
  eq : ∀ a b, PyData.eqvAll (f a) (f b) = decide (a = b)
  lay : ∀ a, PyData.canLayAll0 (f a) = true
  dep : ∀ a, PyData.depthAll (f a) ≤ n
/-- .. with a bound of the depth -/
structure EqN {α : Type} [DecidableEq α] (e : α → PyData) (n : Nat) : Prop where
  eq : ∀ a b, PyData.eqv (e a) (e b) = decide (a = b)
  lay : ∀ a, (e a).canLay0 = true
  dep : ∀ a, (e a).depth ≤ n
section
variable {α β : Type} [DecidableEq α] [DecidableEq β] {e : α → PyData} {f : β → List PyData} {n m : Nat}
theorem eqI : EqN eI 0 := ⟨fun a b => by simp, fun a => by simp, fun a => by simp⟩
theorem eqB' : EqN eB 0 := ⟨fun a b => by simp, fun a => by simp, fun a => by simp⟩
theorem EqN.up (h : EqN e n) (hm : n ≤ m) : EqN e m := ⟨h.eq, h.lay, fun a => Nat.le_trans (h.dep a) hm⟩
theorem eqvA_map (h : EqN e n) : ∀ xs ys : List α, PyData.eqvAll (xs.map e) (ys.map e) = decide (xs = ys)
  | [], [] => by simp
  | [], y :: ys => by simp
  | x :: xs, [] => by simp
  | x :: xs, y :: ys => by
    rw [List.map_cons, List.map_cons, eqvA_cons, h.eq, eqvA_map h xs ys]
    by_cases h1 : x = y <;> by_cases h2 : xs = ys <;> simp [h1, h2]
theorem eqL (h : EqN e n) : EqN (eL e) (n + 1) := ⟨fun a b => by simp only [eqv_l]; exact eqvA_map h a b, fun a => by
    rw [lay_l]; exact layA_all fun d hd => by obtain ⟨x, _, rfl⟩ := List.mem_map.mp hd; exact h.lay x, fun a => by
    rw [dep_l]; exact Nat.succ_le_succ (depA_all fun d hd => by obtain ⟨x, _, rfl⟩ := List.mem_map.mp hd; exact h.dep x)⟩
theorem eqT (h : EqN e n) : EqN (eT e) (n + 1) := ⟨fun a b => by simp only [eqv_t]; exact eqvA_map h a b, fun a => by
    rw [lay_t]; exact layA_all fun d hd => by obtain ⟨x, _, rfl⟩ := List.mem_map.mp hd; exact h.lay x, fun a => by
    rw [dep_t]; exact Nat.succ_le_succ (depA_all fun d hd => by obtain ⟨x, _, rfl⟩ := List.mem_map.mp hd; exact h.dep x)⟩
theorem eqTu (h : EqF f n) : EqN (eTu f) (n + 1) := ⟨fun a b => by simp only [eqv_t]; exact h.eq a b, fun a => by rw [lay_t]; exact h.lay a, fun a => by rw [dep_t]; exact Nat.succ_le_succ (h.dep a)⟩
theorem eq1 (h : EqN e n) : EqF (f1 e) n := ⟨fun a b => by simp [h.eq], fun a => by simp [h.lay], fun a => by simp; exact h.dep a⟩
theorem eqC (h : EqN e n) (h2 : EqF f m) : EqF (fC e f) (max n m) := ⟨fun a b => by
    obtain ⟨a1, a2⟩ := a; obtain ⟨b1, b2⟩ := b
    show PyData.eqvAll (e a1 :: f a2) (e b1 :: f b2) = _
    rw [eqvA_cons, h.eq, h2.eq]
    by_cases h1 : a1 = b1 <;> by_cases h3 : a2 = b2 <;> simp [h1, h3], fun a => by
    show PyData.canLayAll0 (e a.1 :: f a.2) = true
    rw [layA_cons, h.lay, h2.lay]; rfl, fun a => by
    show PyData.depthAll (e a.1 :: f a.2) ≤ _
    rw [depA_cons]; have := h.dep a.1; have := h2.dep a.2; omega⟩
theorem EqN.shaped (h : EqN e n) (hn : n ≤ 64) (a : α) : SeqAt.shaped (e a) = true := by
  rw [shaped_ap, h.lay]; simp; exact Nat.le_trans (h.dep a) hn
theorem eqB_typed {d d' : PyData} (h1 : SeqAt.shaped d = true) (h2 : SeqAt.shaped d' = true) : eqB d d' = some (PyData.eqv d d') := by
  unfold eqB
  split
  · rename_i x y
    congr 1
  · rw [h1, h2]; rfl
theorem eqD_typed (h : EqN e n) (hn : n ≤ 64) (a b : α) : eqD (e a) (e b) = some (.bool (decide (a = b))) := by
  unfold eqD; rw [eqB_typed (h.shaped hn a) (h.shaped hn b), h.eq]; rfl
theorem neD_typed (h : EqN e n) (hn : n ≤ 64) (a b : α) : neD (e a) (e b) = some (.bool (!decide (a = b))) := by
  unfold neD; rw [eqB_typed (h.shaped hn a) (h.shaped hn b), h.eq]; rfl
theorem any_typed (h : EqN e n) (a : α) : ∀ xs : List α, ((xs.map e).any fun z => PyData.eqv z (e a)) = decide (a ∈ xs)
  | [] => by simp
  | x :: xs => by
    rw [List.map_cons, List.any_cons, any_typed h a xs, h.eq]
    by_cases h1 : x = a
    · simp [h1]
    · have : ¬ a = x := fun z => h1 z.symm
      simp [h1, this]
theorem inB_typed {d : PyData} {ds : List PyData} (hd : d = .list ds ∨ d = .tuple ds) {b : PyData} (h1 : SeqAt.shaped b = true) (h2 : SeqAt.shaped d = true) : inB b d = some (ds.any fun z => PyData.eqv z b) := by
  rcases hd with rfl | rfl <;> (unfold inB; simp only [itsOf]; rw [h1, h2]; rfl)
end
end DL

namespace DL
open PySem PySem.Spec PyProof.Rows L2
/-! ### judgements -/
/-- an expression: where t tells v, the mirror tells its datum, and what is known of the names stays -/
def XP {α : Type} (enc : α → PyData) (m : M PyData) (L : SL) (t : Option α) : Prop := ∀ e, Mt e L → ∀ v, t = some v → ∃ e', m e = some (enc v, e') ∧ Mt e' L
def XT (m : M Bool) (L : SL) (t : Option Bool) : Prop := ∀ e, Mt e L → ∀ v, t = some v → ∃ e', m e = some (v, e') ∧ Mt e' L
def XO {α : Type} (enc : α → PyData) (own : Bool) (m : M Opd) (L : SL) (t : Option α) : Prop := ∀ e, Mt e L → ∀ v, t = some v → ∃ o e', m e = some (o, e') ∧ Mt e' L ∧ (∀ e2, Mt e2 L → o.get e2 = some (enc v)) ∧ o.own = own
def XA {α : Type} (own : Bool) (m : M (List Opd)) (L : SL) (t : Option α) (fs : α → List PyData) : Prop := ∀ e, Mt e L → ∀ v, t = some v → ∃ os e', m e = some (os, e') ∧ Mt e' L ∧ (∀ e2, Mt e2 L → getAll os e2 = some (fs v)) ∧ os.any Opd.own = own
/-- the datum's list that is walked -/
def XI {α : Type} (enc : α → PyData) (m : M (List PyData)) (L : SL) (t : Option (List α)) : Prop := ∀ e, Mt e L → ∀ v, t = some v → ∃ e', m e = some (v.map enc, e') ∧ Mt e' L
/-- .. with whatever becomes of the names -/
def XW {α : Type} (enc : α → PyData) (m : M PyData) (L : SL) (t : Option α) : Prop := ∀ e, Mt e L → ∀ v, t = some v → ∃ e', m e = some (enc v, e') ∧ e'.length = L.length
section
variable {α β γ : Type} {ea : α → PyData} {eb : β → PyData} {ec : γ → PyData} {L : SL} {o1 o2 own : Bool}
theorem XP.w {m : M PyData} {t : Option α} (h : XP ea m L t) : XW ea m L t := fun e he v hv => let ⟨e', h1, h2⟩ := h e he v hv; ⟨e', h1, h2.len⟩
theorem x_cv {m : M PyData} {t t' : Option α} (h : XP ea m L t) (q : t = t') : XP ea m L t' := q ▸ h
theorem xt_cv {m : M Bool} {t t' : Option Bool} (h : XT m L t) (q : t = t') : XT m L t' := q ▸ h
theorem xi_cv {m : M (List PyData)} {t t' : Option (List α)} (h : XI ea m L t) (q : t = t') : XI ea m L t' := q ▸ h
theorem xa_cv {m : M (List Opd)} {t t' : Option α} {fs : α → List PyData} (h : XA own m L t fs) (q : t = t') : XA own m L t' fs := q ▸ h
theorem x_up {m : M PyData} {t : Option α} (f : α → β) (q : ∀ v, eb (f v) = ea v) (h : XP ea m L t) : XP eb m L (t.map f) := fun e he v hv => by
  obtain ⟨x, hx, rfl⟩ := Option.map_eq_some_iff.mp hv
  rw [q]; exact h e he x hx
theorem xw_up {m : M PyData} {t : Option α} (f : α → β) (q : ∀ v, eb (f v) = ea v) (h : XW ea m L t) : XW eb m L (t.map f) := fun e he v hv => by
  obtain ⟨x, hx, rfl⟩ := Option.map_eq_some_iff.mp hv
  rw [q]; exact h e he x hx
theorem x_var {i : Nat} {v : α} (h : L[i]? = some (some (some (ea v)))) : XP ea (mVar i) L (some v) := fun e he x hx => by
  cases hx
  have := he.at_ i _ h
  exact ⟨e, by rw [mVar_ap, this]; rfl, he⟩
theorem xw_take {i : Nat} {v : α} (h : L[i]? = some (some (some (ea v)))) : XW ea (mTake i) L (some v) := fun e he x hx => by
  cases hx
  have := he.at_ i _ h
  exact ⟨e.set i none, by rw [mTake_ap, this]; rfl, by rw [List.length_set]; exact he.len⟩
theorem x_c {d : PyData} {v : α} (h : ea v = d) : XP ea (ret d) L (some v) := fun e he x hx => by
  cases hx
  exact ⟨e, by rw [h]; rfl, he⟩
theorem xo_val {m : M PyData} {t : Option α} (h : XP ea m L t) : XO ea false (mVal m) L t := fun e he v hv => by
  obtain ⟨e', h1, h2⟩ := h e he v hv
  exact ⟨.val (ea v), e', by rw [mVal_ap, h1]; rfl, h2, fun _ _ => rfl, rfl⟩
theorem xo_slot {i : Nat} {v : α} (h : L[i]? = some (some (some (ea v)))) : XO ea true (mSlot i) L (some v) := fun e he x hx => by
  cases hx
  have := he.at_ i _ h
  refine ⟨.slot i, e, by rw [mSlot_ap, this]; rfl, he, fun e2 h2 => ?_, rfl⟩
  rw [getO_slot, h2.at_ i _ h]; rfl
theorem xo_up {m : M Opd} {t : Option α} (f : α → β) (q : ∀ v, eb (f v) = ea v) (h : XO ea own m L t) : XO eb own m L (t.map f) := fun e he v hv => by
  obtain ⟨x, hx, rfl⟩ := Option.map_eq_some_iff.mp hv
  rw [q]; exact h e he x hx
/-- an operand's result hangs on nothing that may be changed -/
def OkI {α : Type} (own : Bool) (e : α → PyData) : Prop := own = false ∨ ImmE e
theorem okf {e : α → PyData} : OkI false e := .inl rfl
theorem oki {own : Bool} {e : α → PyData} (h : ImmE e) : OkI own e := .inr h
theorem keepI_ok {e : α → PyData} {v : α} {en : Ev} (h : OkI own e) : keepI own (e v) en = some (e v, en) := by
  rcases h with rfl | h
  · rfl
  · unfold keepI; rw [h v]; simp
abbrev Op2T {α β γ : Type} (g : PyData → PyData → Option PyData) (ea : α → PyData) (eb : β → PyData) (ec : γ → PyData) (f : α → β → Option γ) : Prop := ∀ a b v, f a b = some v → g (ea a) (eb b) = some (ec v)
abbrev Op1T {α γ : Type} (g : PyData → Option PyData) (ea : α → PyData) (ec : γ → PyData) (f : α → Option γ) : Prop := ∀ a v, f a = some v → g (ea a) = some (ec v)
theorem x_bin {g : PyData → PyData → Option PyData} {ma mb : M Opd} {ta : Option α} {tb : Option β} {f : α → β → Option γ} (op : Op2T g ea eb ec f) (ha : XO ea o1 ma L ta) (hb : XO eb o2 mb L tb) (hi : OkI (o1 || o2) ec) :
    XP ec (mBin g ma mb) L (ta.bind fun a => tb.bind fun b => f a b) := fun e he v hv => by
  obtain ⟨a, h1, hv⟩ := Option.bind_eq_some_iff.mp hv
  obtain ⟨b, h2, hv⟩ := Option.bind_eq_some_iff.mp hv
  obtain ⟨x, e1, q1, q2, q3, rfl⟩ := ha e he a h1
  obtain ⟨y, e2, p1, p2, p3, rfl⟩ := hb e1 q2 b h2
  refine ⟨e2, ?_, p2⟩
  simp only [mBin_ap, rs2_ap]
  rw [q1]; simp only [Option.bind_some]
  rw [p1]; simp only [Option.bind_some]
  rw [q3 e2 p2, p3 e2 p2]; simp only [Option.bind_some]
  rw [op a b v hv]; simp only [Option.bind_some]
  exact keepI_ok hi
theorem x_un {g : PyData → Option PyData} {ma : M Opd} {ta : Option α} {f : α → Option γ} (op : Op1T g ea ec f) (ha : XO ea o1 ma L ta) (hi : OkI o1 ec) :
    XP ec (mUn g ma) L (ta.bind f) := fun e he v hv => by
  obtain ⟨a, h1, hv⟩ := Option.bind_eq_some_iff.mp hv
  obtain ⟨x, e1, q1, q2, q3, rfl⟩ := ha e he a h1
  refine ⟨e1, ?_, q2⟩
  simp only [mUn_ap, rs1_ap]
  rw [q1]; simp only [Option.bind_some]
  rw [q3 e1 q2]; simp only [Option.bind_some]
  rw [op a v hv]; simp only [Option.bind_some]
  exact keepI_ok hi
theorem xa_nil : XA false mA0 L (some ()) f0 := fun e he v hv => ⟨[], e, rfl, he, fun _ _ => rfl, rfl⟩
theorem xa_cons {m : M Opd} {r : M (List Opd)} {t : Option α} {t' : Option β} {fs : β → List PyData} (h : XO ea o1 m L t) (hr : XA o2 r L t' fs) : XA (o1 || o2) (mA m r) L (t.bind fun a => t'.map fun b => (a, b)) (fC ea fs) := fun e he v hv => by
  obtain ⟨a, h1, hv⟩ := Option.bind_eq_some_iff.mp hv
  obtain ⟨b, h2, rfl⟩ := Option.map_eq_some_iff.mp hv
  obtain ⟨x, e1, q1, q2, q3, q4⟩ := h e he a h1
  obtain ⟨os, e2, p1, p2, p3, p4⟩ := hr e1 q2 b h2
  refine ⟨x :: os, e2, by rw [mA_ap, q1]; simp only [Option.bind_some]; rw [p1]; rfl, p2, fun e3 h3 => ?_, ?_⟩
  · rw [getAll_cons, q3 e3 h3, p3 e3 h3]; rfl
  · rw [List.any_cons, q4, p4]
theorem x_callB {g : List PyData → Option PyData} {m : M (List Opd)} {t : Option α} {fs : α → List PyData} {f : α → Option γ} (op : ∀ p v, f p = some v → g (fs p) = some (ec v)) (h : XA own m L t fs) (hi : OkI own ec) : XP ec (mCallB g m) L (t.bind f) := fun e he v hv => by
  obtain ⟨a, h1, hv⟩ := Option.bind_eq_some_iff.mp hv
  obtain ⟨os, e1, q1, q2, q3, rfl⟩ := h e he a h1
  refine ⟨e1, ?_, q2⟩
  simp only [mCallB_ap, rsN_ap]
  rw [q1]; simp only [Option.bind_some]
  rw [q3 e1 q2]; simp only [Option.bind_some]
  rw [op a v hv]; simp only [Option.bind_some]
  exact keepI_ok hi
/-- a def that keeps to a typed function -/
def FT {α γ : Type} (mf : List PyData → Option (PyData × List PyData)) (n : Nat) (fs : α → List PyData) (ec : γ → PyData) (f : α → Option γ) : Prop := ∀ p v, f p = some v → (fs p).length = n ∧ ∃ outs, mf (fs p) = some (ec v, outs)
def OkK {α : Type} (own : Bool) (rk : Kd) (e : α → PyData) : Prop := own = false ∨ ∀ v, immK rk (e v) = true
theorem okk {rk : Kd} {e : α → PyData} : OkK false rk e := .inl rfl
theorem okkF {e : α → PyData} (h : ImmE e) : OkK own .frz e := .inr h
theorem okkL {e : α → PyData} (h : ImmE e) : OkK own .l1 (eL e) := .inr fun v => by
  show immA (v.map e) = true
  exact immA_all fun d hd => by obtain ⟨x, _, rfl⟩ := List.mem_map.mp hd; exact h x
theorem x_call {rk : Kd} {n : Nat} {mf : List PyData → Option (PyData × List PyData)} {m : M (List Opd)} {t : Option α} {fs : α → List PyData} {f : α → Option γ} (F : FT mf n fs ec f) (h : XA own m L t fs) (hi : OkK own rk ec) : XP ec (mCall rk n mf m) L (t.bind f) := fun e he v hv => by
  obtain ⟨a, h1, hv⟩ := Option.bind_eq_some_iff.mp hv
  obtain ⟨os, e1, q1, q2, q3, q4⟩ := h e he a h1
  obtain ⟨hn, outs, hf⟩ := F a v hv
  refine ⟨e1, ?_, q2⟩
  rw [mCall_ap, q1]; simp only [Option.bind_some]
  rw [rsK_ap, q3 e1 q2]; simp only [Option.bind_some]
  rw [if_pos hn, hf]; simp only [Option.map_some, Option.bind_some]
  rw [q4]
  rcases hi with rfl | hi
  · rfl
  · rw [hi v]; simp
theorem allVal_of {os : List Opd} {ds : List PyData} {e : Ev} (h : getAll os e = some ds) (hn : os.any Opd.own = false) : allVal os = some ds := by
  induction os generalizing ds with
  | nil => cases h; rfl
  | cons o os ih =>
    rw [List.any_cons, Bool.or_eq_false_iff] at hn
    cases o with
    | slot i => simp at hn
    | val d =>
      rw [getAll_cons, getO_val, Option.bind_some] at h
      obtain ⟨r, hr, rfl⟩ := Option.map_eq_some_iff.mp h
      rw [allVal_val, ih hr hn.2]; rfl
theorem x_tup {m : M (List Opd)} {t : Option α} {fs : α → List PyData} (h : XA false m L t fs) (hl : ∀ p, (fs p).length ≤ 1000) : XP (eTu fs) (mTup m) L t := fun e he v hv => by
  obtain ⟨os, e1, q1, q2, q3, q4⟩ := h e he v hv
  refine ⟨e1, ?_, q2⟩
  rw [mTup_ap, q1]; simp only [Option.bind_some]
  rw [allVal_of (q3 e1 q2) q4]; simp only [Option.bind_some]
  rw [if_pos (hl v)]
theorem x_lst {m : M (List Opd)} {t : Option α} {fs : α → List PyData} (h : XA false m L t fs) (hl : ∀ p, (fs p).length ≤ 1000) : XP (fun p => .list (fs p)) (mLst m) L t := fun e he v hv => by
  obtain ⟨os, e1, q1, q2, q3, q4⟩ := h e he v hv
  refine ⟨e1, ?_, q2⟩
  rw [mLst_ap, q1]; simp only [Option.bind_some]
  rw [allVal_of (q3 e1 q2) q4]; simp only [Option.bind_some]
  rw [if_pos (hl v)]
/-! tests -/
theorem xt_test {m : M PyData} {t : Option Bool} (h : XP eB m L t) : XT (mTest m) L t := fun e he v hv => by
  obtain ⟨e1, q1, q2⟩ := h e he v hv
  exact ⟨e1, by rw [mTest_ap, q1]; rfl, q2⟩
theorem xt_not {m : M Bool} {t : Option Bool} (h : XT m L t) : XT (mNot m) L (t.map fun b => !b) := fun e he v hv => by
  obtain ⟨x, hx, rfl⟩ := Option.map_eq_some_iff.mp hv
  obtain ⟨e1, q1, q2⟩ := h e he x hx
  exact ⟨e1, by rw [mNot_ap, q1]; rfl, q2⟩
theorem xt_and {m n : M Bool} {t t' : Option Bool} (h : XT m L t) (h' : XT n L t') : XT (mAnd m n) L (t.bind fun a => if a = true then t' else some false) := fun e he v hv => by
  obtain ⟨x, hx, hv⟩ := Option.bind_eq_some_iff.mp hv
  obtain ⟨e1, q1, q2⟩ := h e he x hx
  cases x with
  | false => cases hv; exact ⟨e1, by rw [mAnd_ap, q1]; rfl, q2⟩
  | true =>
    obtain ⟨e2, p1, p2⟩ := h' e1 q2 v hv
    exact ⟨e2, by rw [mAnd_ap, q1]; exact p1, p2⟩
theorem xt_or {m n : M Bool} {t t' : Option Bool} (h : XT m L t) (h' : XT n L t') : XT (mOr m n) L (t.bind fun a => if a = true then some true else t') := fun e he v hv => by
  obtain ⟨x, hx, hv⟩ := Option.bind_eq_some_iff.mp hv
  obtain ⟨e1, q1, q2⟩ := h e he x hx
  cases x with
  | true => cases hv; exact ⟨e1, by rw [mOr_ap, q1]; rfl, q2⟩
  | false =>
    obtain ⟨e2, p1, p2⟩ := h' e1 q2 v hv
    exact ⟨e2, by rw [mOr_ap, q1]; exact p1, p2⟩
theorem xt_andT {m n : M Bool} {t : Option Bool} {b : Bool} (h : XT m L t) (h' : XT n L (some b)) : XT (mAnd m n) L (t.map fun a => a && b) := fun e he v hv => by
  obtain ⟨x, hx, rfl⟩ := Option.map_eq_some_iff.mp hv
  refine xt_and h h' e he _ ?_
  rw [hx]; cases x <;> rfl
theorem xt_orT {m n : M Bool} {t : Option Bool} {b : Bool} (h : XT m L t) (h' : XT n L (some b)) : XT (mOr m n) L (t.map fun a => a || b) := fun e he v hv => by
  obtain ⟨x, hx, rfl⟩ := Option.map_eq_some_iff.mp hv
  refine xt_or h h' e he _ ?_
  rw [hx]; cases x <;> rfl
theorem XP_of_XT {m : M PyData} {t : Option Bool} (h : XT (mTest m) L t) : XP eB m L t := fun e he v hv => by
  obtain ⟨e1, q1, q2⟩ := h e he v hv
  exact ⟨e1, mTest_bool q1, q2⟩
theorem mTest_and {m n : M PyData} : mTest (mAndV m n) = mAnd (mTest m) (mTest n) := by
  funext e
  simp only [mTest_ap, mAndV_ap, mAnd_ap]
  cases m e with
  | none => rfl
  | some p =>
    simp only [Option.bind_some]
    cases bOf p.1 with
    | none => rfl
    | some b => cases b <;> simp
theorem mTest_or {m n : M PyData} : mTest (mOrV m n) = mOr (mTest m) (mTest n) := by
  funext e
  simp only [mTest_ap, mOrV_ap, mOr_ap]
  cases m e with
  | none => rfl
  | some p =>
    simp only [Option.bind_some]
    cases bOf p.1 with
    | none => rfl
    | some b => cases b <;> simp
theorem mTest_not {m : M PyData} : mTest (mNotV m) = mNot (mTest m) := by
  funext e
  simp only [mTest_ap, mNotV_ap, mNot_ap]
  cases m e with
  | none => rfl
  | some p =>
    simp only [Option.bind_some]
    cases bOf p.1 <;> simp
theorem x_and {m n : M PyData} {t t' : Option Bool} (h : XP eB m L t) (h' : XP eB n L t') : XP eB (mAndV m n) L (t.bind fun a => if a = true then t' else some false) := XP_of_XT (by rw [mTest_and]; exact xt_and (xt_test h) (xt_test h'))
theorem x_or {m n : M PyData} {t t' : Option Bool} (h : XP eB m L t) (h' : XP eB n L t') : XP eB (mOrV m n) L (t.bind fun a => if a = true then some true else t') := XP_of_XT (by rw [mTest_or]; exact xt_or (xt_test h) (xt_test h'))
theorem x_andT {m n : M PyData} {t : Option Bool} {b : Bool} (h : XP eB m L t) (h' : XP eB n L (some b)) : XP eB (mAndV m n) L (t.map fun a => a && b) := XP_of_XT (by rw [mTest_and]; exact xt_andT (xt_test h) (xt_test h'))
theorem x_orT {m n : M PyData} {t : Option Bool} {b : Bool} (h : XP eB m L t) (h' : XP eB n L (some b)) : XP eB (mOrV m n) L (t.map fun a => a || b) := XP_of_XT (by rw [mTest_or]; exact xt_orT (xt_test h) (xt_test h'))
theorem x_not {m : M PyData} {t : Option Bool} (h : XP eB m L t) : XP eB (mNotV m) L (t.map fun b => !b) := XP_of_XT (by rw [mTest_not]; exact xt_not (xt_test h))
theorem x_if {c : M Bool} {m n : M PyData} {tc : Option Bool} {t t' : Option α} (hc : XT c L tc) (h : XP ea m L t) (h' : XP ea n L t') : XP ea (mIf c m n) L (tc.bind fun b => if b = true then t else t') := fun e he v hv => by
  obtain ⟨x, hx, hv⟩ := Option.bind_eq_some_iff.mp hv
  obtain ⟨e1, q1, q2⟩ := hc e he x hx
  rw [mIf_ap, q1]
  cases x with
  | true => exact h e1 q2 v hv
  | false => exact h' e1 q2 v hv
theorem xw_cv {m : M PyData} {t t' : Option α} (h : XW ea m L t) (q : t = t') : XW ea m L t' := q ▸ h
theorem xw_if {c : M Bool} {m n : M PyData} {tc : Option Bool} {t t' : Option α} (hc : XT c L tc) (h : XW ea m L t) (h' : XW ea n L t') : XW ea (mIf c m n) L (tc.bind fun b => if b = true then t else t') := fun e he v hv => by
  obtain ⟨x, hx, hv⟩ := Option.bind_eq_some_iff.mp hv
  obtain ⟨e1, q1, q2⟩ := hc e he x hx
  rw [mIf_ap, q1]
  cases x with
  | true => exact h e1 q2 v hv
  | false => exact h' e1 q2 v hv
theorem x_ifT {c : M Bool} {m n : M PyData} {tc : Option Bool} {a b : α} (hc : XT c L tc) (h : XP ea m L (some a)) (h' : XP ea n L (some b)) : XP ea (mIf c m n) L (tc.map fun x => if x = true then a else b) := fun e he v hv => by
  obtain ⟨x, hx, rfl⟩ := Option.map_eq_some_iff.mp hv
  refine x_if hc h h' e he _ ?_
  rw [hx]; cases x <;> rfl
theorem x_chain {f g : PyData → PyData → Option PyData} {ma mb mc : M Opd} {ta : Option α} {tb : Option β} {tc : Option γ} {p : α → β → Bool} {q : β → γ → Bool} {o3 : Bool}
    (op : Op2T f ea eb eB fun a b => some (p a b)) (op' : Op2T g eb ec eB fun b c => some (q b c)) (ha : XO ea o1 ma L ta) (hb : XO eb o2 mb L tb) (hc : XO ec o3 mc L tc) :
    XP eB (mChain f g ma mb mc) L (ta.bind fun a => tb.bind fun b => if p a b = true then tc.map fun c => q b c else some false) := fun e he v hv => by
  obtain ⟨a, h1, hv⟩ := Option.bind_eq_some_iff.mp hv
  obtain ⟨b, h2, hv⟩ := Option.bind_eq_some_iff.mp hv
  obtain ⟨x, e1, q1, q2, q3, q4⟩ := ha e he a h1
  obtain ⟨y, e2, p1, p2, p3, p4⟩ := hb e1 q2 b h2
  rw [mChain_ap, q1]; simp only [Option.bind_some]
  rw [p1]; simp only [Option.bind_some]
  rw [rs2_ap, q3 e2 p2, p3 e2 p2]; simp only [Option.bind_some]
  rw [op a b _ rfl]; simp only [Option.bind_some]
  rw [keepI_ok (e := eB) (oki immB)]; simp only [Option.bind_some, bOf_bool]
  cases hp : p a b with
  | false => rw [hp] at hv; cases hv; exact ⟨e2, rfl, p2⟩
  | true =>
    rw [hp] at hv
    obtain ⟨c, h3, rfl⟩ := Option.map_eq_some_iff.mp hv
    obtain ⟨z, e3, r1, r2, r3, r4⟩ := hc e2 p2 c h3
    simp only [if_pos]
    rw [r1]; simp only [Option.bind_some]
    rw [rs2_ap, p3 e3 r2, r3 e3 r2]; simp only [Option.bind_some]
    rw [op' b c _ rfl]; simp only [Option.bind_some]
    exact ⟨e3, keepI_ok (e := eB) (oki immB), r2⟩
theorem x_chainT {f g : PyData → PyData → Option PyData} {ma mb mc : M Opd} {ta : Option α} {tb : Option β} {tc : γ} {p : α → β → Bool} {q : β → γ → Bool} {o3 : Bool}
    (op : Op2T f ea eb eB fun a b => some (p a b)) (op' : Op2T g eb ec eB fun b c => some (q b c)) (ha : XO ea o1 ma L ta) (hb : XO eb o2 mb L tb) (hc : XO ec o3 mc L (some tc)) :
    XP eB (mChain f g ma mb mc) L (ta.bind fun a => tb.bind fun b => some (p a b && q b tc)) := fun e he v hv => by
  obtain ⟨a, h1, hv⟩ := Option.bind_eq_some_iff.mp hv
  obtain ⟨b, h2, hv⟩ := Option.bind_eq_some_iff.mp hv
  cases hv
  refine x_chain op op' ha hb hc e he _ ?_
  rw [h1, h2]; simp only [Option.bind_some]
  cases p a b <;> rfl
/-! where the parts are values -/
theorem x_binT {g : PyData → PyData → Option PyData} {ma mb : M Opd} {a : α} {b : β} {f : α → β → Option γ} (op : Op2T g ea eb ec f) (ha : XO ea o1 ma L (some a)) (hb : XO eb o2 mb L (some b)) (hi : OkI (o1 || o2) ec) : XP ec (mBin g ma mb) L (f a b) := x_bin op ha hb hi
theorem x_unT {g : PyData → Option PyData} {ma : M Opd} {a : α} {f : α → Option γ} (op : Op1T g ea ec f) (ha : XO ea o1 ma L (some a)) (hi : OkI o1 ec) : XP ec (mUn g ma) L (f a) := x_un op ha hi
theorem x_callBT {g : List PyData → Option PyData} {m : M (List Opd)} {p : α} {fs : α → List PyData} {f : α → Option γ} (op : ∀ p v, f p = some v → g (fs p) = some (ec v)) (h : XA own m L (some p) fs) (hi : OkI own ec) : XP ec (mCallB g m) L (f p) := x_callB op h hi
theorem x_callT {rk : Kd} {n : Nat} {mf : List PyData → Option (PyData × List PyData)} {m : M (List Opd)} {p : α} {fs : α → List PyData} {f : α → Option γ} (F : FT mf n fs ec f) (h : XA own m L (some p) fs) (hi : OkK own rk ec) : XP ec (mCall rk n mf m) L (f p) := x_call F h hi
end
end DL

namespace DL
open PySem PySem.Spec PyProof.Rows L2
/-! ### operators at their types -/
section
variable {α β γ : Type} {ea : α → PyData} {eb : β → PyData} {ec : γ → PyData} {L : SL} {o1 o2 own : Bool}
theorem q_add : Op2T addD eI eI eI fun a b => some (a + b) := fun a b v h => by cases h; rfl
theorem q_sub : Op2T subD eI eI eI fun a b => some (a - b) := fun a b v h => by cases h; rfl
theorem q_iadd : Op2T iaddD eI eI eI fun a b => some (a + b) := fun a b v h => by cases h; rfl
def mulT (a b : Int) : Option Int := if mulOk a b = true then some (a * b) else none
theorem q_mul : Op2T mulD eI eI eI mulT := fun a b v h => by
  unfold mulT at h
  split at h
  · rename_i hm; cases h; show (if mulOk a b = true then some (PyData.int (a * b)) else none) = _; rw [if_pos hm]
  · cases h
def fdivT (a b : Int) : Option Int := if b ≠ 0 ∧ b.natAbs < 1073741824 then some (a.fdiv b) else none
theorem q_fdiv : Op2T fdivD eI eI eI fdivT := fun a b v h => by
  unfold fdivT at h
  split at h
  · rename_i hm; cases h; show (if b ≠ 0 ∧ b.natAbs < 1073741824 then some (PyData.int (a.fdiv b)) else none) = _; rw [if_pos hm]
  · cases h
def modT (a b : Int) : Option Int := if b ≠ 0 then some (a.fmod b) else none
theorem q_mod : Op2T modD eI eI eI modT := fun a b v h => by
  unfold modT at h
  split at h
  · rename_i hm; cases h; show (if b ≠ 0 then some (PyData.int (a.fmod b)) else none) = _; rw [if_pos hm]
  · cases h
theorem q_neg : Op1T negD eI eI fun a => some (-a) := fun a v h => by cases h; rfl
theorem q_lt : Op2T ltD eI eI eB fun a b => some (decide (a < b)) := fun a b v h => by cases h; rfl
theorem q_le : Op2T leD eI eI eB fun a b => some (decide (a ≤ b)) := fun a b v h => by cases h; rfl
theorem q_gt : Op2T gtD eI eI eB fun a b => some (decide (b < a)) := fun a b v h => by cases h; rfl
theorem q_ge : Op2T geD eI eI eB fun a b => some (decide (b ≤ a)) := fun a b v h => by cases h; rfl
theorem q_eq [DecidableEq α] {n : Nat} (h : EqN ea n) (hn : n ≤ 64 := by decide) : Op2T eqD ea ea eB fun a b => some (decide (a = b)) := fun a b v q => by cases q; exact eqD_typed h hn a b
theorem q_ne [DecidableEq α] {n : Nat} (h : EqN ea n) (hn : n ≤ 64 := by decide) : Op2T neD ea ea eB fun a b => some (!decide (a = b)) := fun a b v q => by cases q; exact neD_typed h hn a b
theorem q_eqS : Op2T eqD eS eS eB fun a b => some (decide (a = b)) := fun a b v q => by cases q; rfl
theorem q_neS : Op2T neD eS eS eB fun a b => some (!decide (a = b)) := fun a b v q => by cases q; rfl
/-- membership -/
def memT {α : Type} [DecidableEq α] (a : α) (l : List α) : Bool := decide (a ∈ l)
@[simp] theorem memT_eq {α : Type} [DecidableEq α] {a : α} {l : List α} : memT a l = decide (a ∈ l) := rfl
theorem q_inL [DecidableEq α] {n : Nat} (h : EqN ea n) (hn : n ≤ 60 := by decide) : Op2T inD ea (eL ea) eB fun a l => some (memT a l) := fun a l v q => by
  cases q
  unfold inD
  rw [inB_typed (.inl rfl) (h.shaped (by omega) a) ((eqL h).shaped (by omega) l), any_typed h]; rfl
theorem q_inT [DecidableEq α] {n : Nat} (h : EqN ea n) (hn : n ≤ 60 := by decide) : Op2T inD ea (eT ea) eB fun a l => some (memT a l) := fun a l v q => by
  cases q
  unfold inD
  rw [inB_typed (.inr rfl) (h.shaped (by omega) a) ((eqT h).shaped (by omega) l), any_typed h]; rfl
theorem q_notInL [DecidableEq α] {n : Nat} (h : EqN ea n) (hn : n ≤ 60 := by decide) : Op2T notInD ea (eL ea) eB fun a l => some (!memT a l) := fun a l v q => by
  cases q
  unfold notInD
  rw [inB_typed (.inl rfl) (h.shaped (by omega) a) ((eqL h).shaped (by omega) l), any_typed h]; rfl
theorem q_notInT [DecidableEq α] {n : Nat} (h : EqN ea n) (hn : n ≤ 60 := by decide) : Op2T notInD ea (eT ea) eB fun a l => some (!memT a l) := fun a l v q => by
  cases q
  unfold notInD
  rw [inB_typed (.inr rfl) (h.shaped (by omega) a) ((eqT h).shaped (by omega) l), any_typed h]; rfl
theorem q_isB : Op2T isD eB eB eB fun a b => some (decide (a = b)) := fun a b v h => by cases h; rfl
theorem q_isNotB : Op2T isNotD eB eB eB fun a b => some (!decide (a = b)) := fun a b v h => by cases h; rfl
theorem q_isN : Op2T isD ea eN eB fun a _ => some (isNon (ea a)) := fun a b v h => by cases h; exact isD_n
theorem q_isNotN : Op2T isNotD ea eN eB fun a _ => some (!isNon (ea a)) := fun a b v h => by cases h; exact isNotD_n
def catT {α : Type} (a b : List α) : Option (List α) := if a.length + b.length ≤ sizeLine then some (a ++ b) else none
theorem q_catT : Op2T addD (eT ea) (eT ea) (eT ea) catT := fun a b v h => by
  unfold catT at h
  split at h
  · rename_i hm; cases h
    show (if (a.map ea).length + (b.map ea).length ≤ sizeLine then some (PyData.tuple (a.map ea ++ b.map ea)) else none) = _
    rw [List.length_map, List.length_map, if_pos hm, ← List.map_append]
  · cases h
theorem q_catL : Op2T addD (eL ea) (eL ea) (eL ea) catT := fun a b v h => by
  unfold catT at h
  split at h
  · rename_i hm; cases h
    show (if (a.map ea).length + (b.map ea).length ≤ sizeLine then some (PyData.list (a.map ea ++ b.map ea)) else none) = _
    rw [List.length_map, List.length_map, if_pos hm, ← List.map_append]
  · cases h
theorem atI_map {f : α → β} {xs : List α} {i : Int} : atI (xs.map f) i = (atI xs i).map f := by
  unfold atI
  rw [List.length_map]
  cases ixN xs.length i with
  | none => rfl
  | some j => simp
theorem q_itemL : Op2T itemD (eL ea) eI ea fun l i => atI l i := fun a i v h => by
  have h : atI a i = some v := h
  show atI (a.map ea) i = _
  rw [atI_map, h]; rfl
theorem q_itemT : Op2T itemD (eT ea) eI ea fun l i => atI l i := fun a i v h => by
  have h : atI a i = some v := h
  show atI (a.map ea) i = _
  rw [atI_map, h]; rfl
/-- a member of a tuple of told length -/
theorem q_proj {f : α → β} (i : Int) (q : ∀ a, itemD (ea a) (.int i) = some (eb (f a))) : Op1T (fun d => itemD d (.int i)) ea eb fun a => some (f a) := fun a v h => by cases h; exact q a
theorem x_proj {m : M Opd} {t : Option α} {i : Int} {f : α → β} (q : ∀ a, itemD (ea a) (.int i) = some (eb (f a))) (h : XO ea o1 m L t) (hi : OkI o1 eb) : XP eb (mBin itemD m (mVal (ret (.int i)))) L (t.map f) := by
  have := x_bin (g := itemD) (ea := ea) (eb := eI) (ec := eb) (f := fun a b => if b = i then some (f a) else none) (fun a b v hv => by
    dsimp only at hv
    split at hv
    · rename_i hb; cases hv; rw [hb]; exact q a
    · cases hv) h (xo_val (x_c (v := i) rfl)) (by rw [Bool.or_false]; exact hi)
  refine fun e he v hv => this e he v ?_
  obtain ⟨x, hx, rfl⟩ := Option.map_eq_some_iff.mp hv
  rw [hx]; simp
/-! slices -/
def cutT {α : Type} (xs : List α) (lo hi : Option Int) : List α := (xs.drop (HT.sIx xs.length 0 lo)).take (HT.sIx xs.length xs.length hi - HT.sIx xs.length 0 lo)
theorem cutD_map {xs : List α} {lo hi : Option Int} : cutD (xs.map ea) lo hi = (cutT xs lo hi).map ea := by
  unfold cutD cutT
  rw [List.length_map, List.map_take, List.map_drop]
def XQ (m : M (Option Int)) (L : SL) (t : Option (Option Int)) : Prop := ∀ e, Mt e L → ∀ v, t = some v → ∃ e', m e = some (v, e') ∧ Mt e' L
theorem xq_none : XQ mNoPart L (some none) := fun e he v hv => by cases hv; exact ⟨e, rfl, he⟩
theorem xq_some {m : M PyData} {t : Option Int} (h : XP eI m L t) : XQ (mPart m) L (t.map some) := fun e he v hv => by
  obtain ⟨x, hx, rfl⟩ := Option.map_eq_some_iff.mp hv
  obtain ⟨e1, q1, q2⟩ := h e he x hx
  exact ⟨e1, by rw [mPart_ap, q1]; rfl, q2⟩
theorem xq_cv {m : M (Option Int)} {t t' : Option (Option Int)} (h : XQ m L t) (q : t = t') : XQ m L t' := q ▸ h
theorem x_sl {m : M Opd} {l h : M (Option Int)} {t : Option (List α)} {tl th : Option (Option Int)} {E : List α → PyData} (hE : (∀ xs lo hi, sliceD lo hi (E xs) = some (E (cutT xs lo hi)))) (hm : XO E o1 m L t) (hl : XQ l L tl) (hh : XQ h L th) (hi : OkI o1 E) :
    XP E (mSl m l h) L (t.bind fun xs => tl.bind fun lo => th.bind fun hi => some (cutT xs lo hi)) := fun e he v hv => by
  obtain ⟨xs, h1, hv⟩ := Option.bind_eq_some_iff.mp hv
  obtain ⟨lo, h2, hv⟩ := Option.bind_eq_some_iff.mp hv
  obtain ⟨hi', h3, hv⟩ := Option.bind_eq_some_iff.mp hv
  cases hv
  obtain ⟨x, e1, q1, q2, q3, rfl⟩ := hm e he xs h1
  obtain ⟨e2, p1, p2⟩ := hl e1 q2 lo h2
  obtain ⟨e3, r1, r2⟩ := hh e2 p2 hi' h3
  refine ⟨e3, ?_, r2⟩
  rw [mSl_ap, q1]; simp only [Option.bind_some]
  rw [p1]; simp only [Option.bind_some]
  rw [r1]; simp only [Option.bind_some]
  rw [rs1_ap, q3 e3 r2]; simp only [Option.bind_some]
  rw [hE]; simp only [Option.bind_some]
  exact keepI_ok hi
theorem slT : ∀ (xs : List α) lo hi, sliceD lo hi (eT ea xs) = some (eT ea (cutT xs lo hi)) := fun xs lo hi => by
  show some (PyData.tuple (cutD (xs.map ea) lo hi)) = _
  rw [cutD_map]
theorem slL : ∀ (xs : List α) lo hi, sliceD lo hi (eL ea xs) = some (eL ea (cutT xs lo hi)) := fun xs lo hi => by
  show some (PyData.list (cutD (xs.map ea) lo hi)) = _
  rw [cutD_map]
/-- a slice with written bounds of a tuple of told length -/
theorem x_slP {m : M Opd} {l h : M (Option Int)} {t : Option α} {lo hi : Option Int} {f : α → β} (q : ∀ a, sliceD lo hi (ea a) = some (eb (f a))) (hm : XO ea o1 m L t) (hl : XQ l L (some lo)) (hh : XQ h L (some hi)) (hk : OkI o1 eb) :
    XP eb (mSl m l h) L (t.map f) := fun e he v hv => by
  obtain ⟨x, hx, rfl⟩ := Option.map_eq_some_iff.mp hv
  obtain ⟨o, e1, q1, q2, q3, rfl⟩ := hm e he x hx
  obtain ⟨e2, p1, p2⟩ := hl e1 q2 lo rfl
  obtain ⟨e3, r1, r2⟩ := hh e2 p2 hi rfl
  refine ⟨e3, ?_, r2⟩
  rw [mSl_ap, q1]; simp only [Option.bind_some]
  rw [p1]; simp only [Option.bind_some]
  rw [r1]; simp only [Option.bind_some]
  rw [rs1_ap, q3 e3 r2]; simp only [Option.bind_some]
  rw [q]; simp only [Option.bind_some]
  exact keepI_ok hk
theorem q_revL : Op1T revD (eL ea) (eL ea) fun l => some l.reverse := fun a v h => by cases h; show some (PyData.list (a.map ea).reverse) = _; rw [← List.map_reverse]
/-! built-ins -/
theorem q_lenL : ∀ (p : List α × Unit) v, (fun p : List α × Unit => some (p.1.length : Int)) p = some v → lenD (fC (eL ea) f0 p) = some (eI v) := fun p v h => by
  cases h; show some (PyData.int ((p.1.map ea).length : Int)) = _; rw [List.length_map]
theorem q_lenT : ∀ (p : List α × Unit) v, (fun p : List α × Unit => some (p.1.length : Int)) p = some v → lenD (fC (eT ea) f0 p) = some (eI v) := fun p v h => by
  cases h; show some (PyData.int ((p.1.map ea).length : Int)) = _; rw [List.length_map]
theorem q_abs : ∀ (p : Int × Unit) v, (fun p : Int × Unit => some (if p.1 < 0 then -p.1 else p.1)) p = some v → absD (fC eI f0 p) = some (eI v) := fun p v h => by cases h; rfl
theorem q_max2 : ∀ (p : Int × Int × Unit) v, (fun p : Int × Int × Unit => some (if p.2.1 > p.1 then p.2.1 else p.1)) p = some v → max2D (fC eI (fC eI f0) p) = some (eI v) := fun p v h => by cases h; rfl
theorem q_min2 : ∀ (p : Int × Int × Unit) v, (fun p : Int × Int × Unit => some (if p.2.1 < p.1 then p.2.1 else p.1)) p = some v → min2D (fC eI (fC eI f0) p) = some (eI v) := fun p v h => by cases h; rfl
theorem q_intI : ∀ (p : Int × Unit) v, (fun p : Int × Unit => some p.1) p = some v → intD (fC eI f0 p) = some (eI v) := fun p v h => by cases h; rfl
theorem q_intB : ∀ (p : Bool × Unit) v, (fun p : Bool × Unit => some (if p.1 = true then (1 : Int) else 0)) p = some v → intD (fC eB f0 p) = some (eI v) := fun p v h => by cases h; rfl
theorem q_tupL : ∀ (p : List α × Unit) v, (fun p : List α × Unit => some p.1) p = some v → tupleD (fC (eL ea) f0 p) = some (eT ea v) := fun p v h => by cases h; rfl
theorem q_tupT : ∀ (p : List α × Unit) v, (fun p : List α × Unit => some p.1) p = some v → tupleD (fC (eT ea) f0 p) = some (eT ea v) := fun p v h => by cases h; rfl
theorem q_lstL : ∀ (p : List α × Unit) v, (fun p : List α × Unit => some p.1) p = some v → listD (fC (eL ea) f0 p) = some (eL ea v) := fun p v h => by cases h; rfl
theorem q_lstT : ∀ (p : List α × Unit) v, (fun p : List α × Unit => some p.1) p = some v → listD (fC (eT ea) f0 p) = some (eL ea v) := fun p v h => by cases h; rfl
theorem q_sumT : ∀ (p : List Int × Unit) v, (fun p : List Int × Unit => some p.1.sum) p = some v → sumD (fC (eT eI) f0 p) = some (eI v) := fun p v h => by cases h; exact sumD_intsT
theorem q_sum : ∀ (p : List Int × Unit) v, (fun p : List Int × Unit => some p.1.sum) p = some v → sumD (fC (eL eI) f0 p) = some (eI v) := fun p v h => by cases h; exact sumD_ints
theorem q_all : ∀ (p : List Bool × Unit) v, (fun p : List Bool × Unit => some (p.1.all id)) p = some v → allD (fC (eL eB) f0 p) = some (eB v) := fun p v h => by cases h; exact allD_bools
def reprT (d : PyData) : Option Str := if reprOk d = true then some d.shown else none
theorem q_repr : ∀ (p : α × Unit) v, (fun p : α × Unit => reprT (ea p.1)) p = some v → reprD (fC ea f0 p) = some (eS v) := fun p v h => by
  unfold reprT at h
  dsimp only at h
  split at h
  · rename_i hr; cases h; show reprD [ea p.1] = _; rw [reprD_ok, if_pos hr]
  · cases h
/-- a built-in at data of any kind -/
theorem q_anyB {g : List PyData → Option PyData} : ∀ (p : α × Unit) v, (fun p : α × Unit => g [ea p.1]) p = some v → g (fC ea f0 p) = some (eA v) := fun p v h => h
theorem q_any2 {g : PyData → PyData → Option PyData} : Op2T g ea eb eA fun a b => g (ea a) (eb b) := fun a b v h => h
theorem q_any1 {g : PyData → Option PyData} : Op1T g ea eA fun a => g (ea a) := fun a v h => h
/-- .. whose result is of a type -/
theorem q_ext2 {g : PyData → PyData → Option PyData} {x : PyData → Option γ} (hx : ∀ d v, x d = some v → d = ec v) : Op2T g ea eb ec fun a b => (g (ea a) (eb b)).bind x := fun a b v h => by
  obtain ⟨d, h1, h2⟩ := Option.bind_eq_some_iff.mp h
  rw [h1, hx d v h2]
theorem q_ext1 {g : PyData → Option PyData} {x : PyData → Option γ} (hx : ∀ d v, x d = some v → d = ec v) : Op1T g ea ec fun a => (g (ea a)).bind x := fun a v h => by
  obtain ⟨d, h1, h2⟩ := Option.bind_eq_some_iff.mp h
  rw [h1, hx d v h2]
theorem q_extB {g : List PyData → Option PyData} {x : PyData → Option γ} (hx : ∀ d v, x d = some v → d = ec v) : ∀ (p : α × Unit) v, (fun p : α × Unit => (g [ea p.1]).bind x) p = some v → g (fC ea f0 p) = some (ec v) := fun p v h => by
  obtain ⟨d, h1, h2⟩ := Option.bind_eq_some_iff.mp h
  show g [ea p.1] = _
  rw [h1, hx d v h2]
theorem bOf_x : ∀ d v, bOf d = some v → d = eB v := fun d v h => by cases d <;> cases h; rfl
def asI : PyData → Option Int
  | .int i => some i
  | _ => none
theorem asI_x : ∀ d v, asI d = some v → d = eI v := fun d v h => by cases d <;> cases h; rfl
@[simp] theorem asI_i {i : Int} : asI (.int i) = some i := rfl
theorem x_isi {c : String} {m : M Opd} {t : Option α} (hc : isiOk c = true) (h : XO ea o1 m L t) : XP eB (mIsi c m) L (t.map fun a => isiT (tyD (ea a)) c) := fun e he v hv => by
  obtain ⟨x, hx, rfl⟩ := Option.map_eq_some_iff.mp hv
  obtain ⟨o, e1, q1, q2, q3, q4⟩ := h e he x hx
  refine ⟨e1, ?_, q2⟩
  rw [mIsi_ap, q1]; simp only [Option.bind_some]
  rw [rs1_ap, q3 e1 q2]; simp only [Option.bind_some]
  rw [if_pos hc]; simp only [Option.bind_some]
  exact keepI_ok (e := eB) (oki immB)
/-! cats of lists, repeated displays -/
theorem x_cat {ma mb : M Opd} {ta tb : Option (List α)} (ha : XO (eL ea) o1 ma L ta) (hb : XO (eL ea) o2 mb L tb) : XP (eL ea) (mCat ma mb) L (ta.bind fun a => tb.bind fun b => catT a b) := fun e he v hv => by
  obtain ⟨a, h1, hv⟩ := Option.bind_eq_some_iff.mp hv
  obtain ⟨b, h2, hv⟩ := Option.bind_eq_some_iff.mp hv
  obtain ⟨x, e1, q1, q2, q3, rfl⟩ := ha e he a h1
  obtain ⟨y, e2, p1, p2, p3, rfl⟩ := hb e1 q2 b h2
  unfold catT at hv
  split at hv
  · rename_i hl
    cases hv
    refine ⟨e2, ?_, p2⟩
    unfold mCat
    simp only [bnd_ap]
    rw [q1]; simp only [Option.bind_some]
    rw [p1]; simp only [Option.bind_some]
    rw [q3 e2 p2, p3 e2 p2]
    dsimp only
    rw [List.length_map, List.length_map, if_pos hl, ← List.map_append]
  · cases hv
def enumT {α : Type} (l : List α) : List (Int × α) := l.zipIdx.map fun p => ((p.2 : Int), p.1)
theorem enumL_T {xs : List α} : enumL (xs.map ea) = (enumT xs).map (eTu (fC eI (f1 ea))) := by
  unfold enumL enumT
  rw [List.zipIdx_map, List.map_map, List.map_map]
  rfl
/-! ### what is walked -/
/-- .. where something becomes of the names -/
def XI2 {α : Type} (enc : α → PyData) (m : M (List PyData)) (L : SL) (t : Option (List α)) (L' : SL) : Prop := ∀ e, Mt e L → ∀ v, t = some v → ∃ e', m e = some (v.map enc, e') ∧ Mt e' L'
theorem xi2 {m : M (List PyData)} {t : Option (List α)} (h : XI ea m L t) : XI2 ea m L t L := h
theorem xi2_take {i : Nat} {v : List α} (h : L[i]? = some (some (some (eL ea v)))) : XI2 ea (mIt (mTake i)) L (some v) (L.set i (some none)) := fun e he x hx => by
  cases hx
  have := he.at_ i _ h
  exact ⟨e.set i none, by rw [mIt_ap, mTake_ap, this]; rfl, he.set i none⟩
theorem xi2_enumTake {i : Nat} {v : List α} (h : L[i]? = some (some (some (eL ea v)))) : XI2 (eTu (fC eI (f1 ea))) (mEnum (mTake i)) L (some (enumT v)) (L.set i (some none)) := fun e he x hx => by
  cases hx
  have := he.at_ i _ h
  refine ⟨e.set i none, ?_, he.set i none⟩
  rw [mEnum_ap, mTake_ap, this]
  simp only [Option.join_some, Option.map_some, Option.bind_some]
  rw [itsOf_list, Option.map_some, enumL_T]
theorem xi_list {m : M PyData} {t : Option (List α)} (h : XP (eL ea) m L t) : XI ea (mIt m) L t := fun e he v hv => by
  obtain ⟨e1, q1, q2⟩ := h e he v hv
  exact ⟨e1, by rw [mIt_ap, q1]; rfl, q2⟩
theorem xi_tup {m : M PyData} {t : Option (List α)} (h : XP (eT ea) m L t) : XI ea (mIt m) L t := fun e he v hv => by
  obtain ⟨e1, q1, q2⟩ := h e he v hv
  exact ⟨e1, by rw [mIt_ap, q1]; rfl, q2⟩
/-- a tuple of told length, its members of one type -/
theorem xi_tu {m : M PyData} {t : Option α} {f : α → List β} (q : ∀ a, itsOf (ea a) = some ((f a).map eb)) (h : XP ea m L t) : XI eb (mIt m) L (t.map f) := fun e he v hv => by
  obtain ⟨x, hx, rfl⟩ := Option.map_eq_some_iff.mp hv
  obtain ⟨e1, q1, q2⟩ := h e he x hx
  exact ⟨e1, by rw [mIt_ap, q1]; simp only [Option.bind_some]; rw [q]; rfl, q2⟩
theorem xi_any {m : M PyData} {t : Option PyData} (h : XP eA m L t) : XI eA (mIt m) L (t.bind itsOf) := fun e he v hv => by
  obtain ⟨x, hx, hv⟩ := Option.bind_eq_some_iff.mp hv
  obtain ⟨e1, q1, q2⟩ := h e he x hx
  refine ⟨e1, ?_, q2⟩
  rw [mIt_ap, q1]; simp only [Option.bind_some]
  show (itsOf x).map _ = _
  rw [hv]; simp
def rngT (lo hi : Int) : List Int := (List.range (hi - lo).toNat).map fun k : Nat => lo + (k : Int)
theorem rngL_T {lo : Int} {n : Nat} : rngL lo n = ((List.range n).map fun k : Nat => lo + (k : Int)).map eI := by simp [rngL]
def rng1T (j : Int) : Option (List Int) := if rng62 j = true then some (rngT 0 j) else none
def rng2T (i j : Int) : Option (List Int) := if rng62 i = true ∧ rng62 j = true then some (rngT i j) else none
theorem xi_rng1 {m : M (List Opd)} {t : Option (Int × Unit)} (h : XA false m L t (fC eI f0)) : XI eI (mRng rg1 m) L (t.bind fun p => rng1T p.1) := fun e he v hv => by
  obtain ⟨p, hp, hv⟩ := Option.bind_eq_some_iff.mp hv
  obtain ⟨os, e1, q1, q2, q3, q4⟩ := h e he p hp
  refine ⟨e1, ?_, q2⟩
  rw [mRng_ap, q1]; simp only [Option.bind_some]
  rw [allVal_of (q3 e1 q2) q4]; simp only [Option.bind_some]
  unfold rng1T at hv
  split at hv
  · rename_i hr; cases hv
    show (if rng62 p.1 = true then some (rngL 0 p.1.toNat) else none).map _ = _
    rw [if_pos hr, rngL_T]
    unfold rngT
    simp
  · cases hv
theorem xi_rng2 {m : M (List Opd)} {t : Option (Int × Int × Unit)} (h : XA false m L t (fC eI (fC eI f0))) : XI eI (mRng rg2 m) L (t.bind fun p => rng2T p.1 p.2.1) := fun e he v hv => by
  obtain ⟨p, hp, hv⟩ := Option.bind_eq_some_iff.mp hv
  obtain ⟨os, e1, q1, q2, q3, q4⟩ := h e he p hp
  refine ⟨e1, ?_, q2⟩
  rw [mRng_ap, q1]; simp only [Option.bind_some]
  rw [allVal_of (q3 e1 q2) q4]; simp only [Option.bind_some]
  unfold rng2T at hv
  split at hv
  · rename_i hr; cases hv
    show (if (rng62 p.1 && rng62 p.2.1) = true then some (rngL p.1 (p.2.1 - p.1).toNat) else none).map _ = _
    rw [if_pos (by rw [hr.1, hr.2]; rfl), rngL_T]
    rfl
  · cases hv
theorem xi_enumL {m : M PyData} {t : Option (List α)} (h : XP (eL ea) m L t) : XI (eTu (fC eI (f1 ea))) (mEnum m) L (t.map enumT) := fun e he v hv => by
  obtain ⟨x, hx, rfl⟩ := Option.map_eq_some_iff.mp hv
  obtain ⟨e1, q1, q2⟩ := h e he x hx
  refine ⟨e1, ?_, q2⟩
  rw [mEnum_ap, q1]; simp only [Option.bind_some]
  show (itsOf (.list (x.map ea))).map _ = _
  rw [itsOf_list, Option.map_some, enumL_T]
theorem xi_enumT {m : M PyData} {t : Option (List α)} (h : XP (eT ea) m L t) : XI (eTu (fC eI (f1 ea))) (mEnum m) L (t.map enumT) := fun e he v hv => by
  obtain ⟨x, hx, rfl⟩ := Option.map_eq_some_iff.mp hv
  obtain ⟨e1, q1, q2⟩ := h e he x hx
  refine ⟨e1, ?_, q2⟩
  rw [mEnum_ap, q1]; simp only [Option.bind_some]
  show (itsOf (.tuple (x.map ea))).map _ = _
  rw [itsOf_tuple, Option.map_some, enumL_T]
theorem xi_enumA {m : M PyData} {t : Option PyData} (h : XP eA m L t) : XI (eTu (fC eI (f1 eA))) (mEnum m) L (t.bind fun d => (itsOf d).map enumT) := fun e he v hv => by
  obtain ⟨x, hx, hv⟩ := Option.bind_eq_some_iff.mp hv
  obtain ⟨xs, hxs, rfl⟩ := Option.map_eq_some_iff.mp hv
  obtain ⟨e1, q1, q2⟩ := h e he x hx
  refine ⟨e1, ?_, q2⟩
  rw [mEnum_ap, q1]; simp only [Option.bind_some]
  show (itsOf x).map _ = _
  rw [hxs, Option.map_some, ← enumL_T]
  simp
def zipT {α β : Type} (a : List α) (b : List β) : Option (List (α × β)) := if a.length = b.length then some (a.zip b) else none
theorem xi_zip {m : M (List Opd)} {t : Option (List α × List β × Unit)} {A : List α → PyData} {B' : List β → PyData} (hA : ∀ l, itsOf (A l) = some (l.map ea)) (hB : ∀ l, itsOf (B' l) = some (l.map eb)) (h : XA false m L t (fC A (fC B' fun _ => []))) : XI (eTu (fC ea (f1 eb))) (mZip m) L (t.bind fun p => zipT p.1 p.2.1) := fun e he v hv => by
  obtain ⟨p, hp, hv⟩ := Option.bind_eq_some_iff.mp hv
  obtain ⟨os, e1, q1, q2, q3, q4⟩ := h e he p hp
  refine ⟨e1, ?_, q2⟩
  rw [mZip_ap, q1]; simp only [Option.bind_some]
  rw [allVal_of (q3 e1 q2) q4]; simp only [Option.bind_some]
  show (zip2 [A p.1, B' p.2.1]).map _ = _
  rw [zip2_ap, hA, hB]; simp only [Option.bind_some]
  unfold zipT at hv
  split at hv
  · rename_i hl; cases hv
    unfold zipL
    rw [List.length_map, List.length_map, if_pos hl, Option.map_some, List.zip_map, List.map_map]
    rfl
  · cases hv
/-! ### targets -/
def XG (g : St1) (d : PyData) (L L' : SL) : Prop := ∀ e, Mt e L → ∃ e', g d e = some e' ∧ Mt e' L'
def XGs (g : List PyData → Ev → Option Ev) (ds : List PyData) (L L' : SL) : Prop := ∀ e, Mt e L → ∃ e', g ds e = some e' ∧ Mt e' L'
theorem xg_nm {i : Nat} {d : PyData} : XG (gNm i) d L (L.set i (some (some d))) := fun e he => ⟨_, rfl, he.set i _⟩
theorem xg_tu {n : Nat} {g : List PyData → Ev → Option Ev} {ds : List PyData} {L' : SL} (hl : ds.length = n) (h : XGs g ds L L') : XG (gTp n g) (.tuple ds) L L' := fun e he => by
  obtain ⟨e', h1, h2⟩ := h e he
  exact ⟨e', by rw [gTp_ap, if_pos hl]; exact h1, h2⟩
theorem xg_nil : XGs gNl [] L L := fun e he => ⟨e, rfl, he⟩
theorem xg_cons {g : St1} {r : List PyData → Ev → Option Ev} {d : PyData} {ds : List PyData} {L1 L2 : SL} (h : XG g d L L1) (h' : XGs r ds L1 L2) : XGs (gCn g r) (d :: ds) L L2 := fun e he => by
  obtain ⟨e1, q1, q2⟩ := h e he
  obtain ⟨e2, p1, p2⟩ := h' e1 q2
  exact ⟨e2, by rw [gCn_ap, q1]; exact p1, p2⟩
/-! ### comprehensions -/
/-- an expression, what is known of the names behind it -/
def XE {α : Type} (enc : α → PyData) (m : M PyData) (L : SL) (t : Option α) (L' : SL) : Prop := ∀ e, Mt e L → ∀ v, t = some v → ∃ e', m e = some (enc v, e') ∧ Mt e' L'
theorem xe_cv {m : M PyData} {t t' : Option α} {L' : SL} (h : XE ea m L t L') (q : t = t') : XE ea m L t' L' := q ▸ h
theorem xe_take {i : Nat} {v : α} (h : L[i]? = some (some (some (ea v)))) : XE ea (mTake i) L (some v) (L.set i (some none)) := fun e he x hx => by
  cases hx
  have := he.at_ i _ h
  exact ⟨e.set i none, by rw [mTake_ap, this]; rfl, he.set i none⟩
theorem xe_w {m : M PyData} {t : Option α} {L' : SL} (h : XE ea m L t L') (hl : L'.length = L.length) : XW ea m L t := fun e he v hv => let ⟨e', h1, h2⟩ := h e he v hv; ⟨e', h1, h2.len.trans hl⟩
/-- a comprehension whose parts may fail -/
def compT {α β : Type} (p : α → Option Bool) (f : α → Option β) : List α → Option (List β)
  | [] => some []
  | x :: r => (p x).bind fun b => if b = true then (f x).bind fun y => (compT p f r).map (y :: ·) else compT p f r
def compG {α β : Type} (p : α → Option Bool) (f : α → Option β) (xs : List α) : Option (List β) := if xs.length ≤ 1000000 then compT p f xs else none
theorem compL_T {g : St1} {t : M Bool} {m : M PyData} {vs : List Nat} {p : α → Option Bool} {f : α → Option β} {L1 : α → SL} (hg : ∀ x, XG g (ea x) (wipeL L vs) (L1 x)) (ht : ∀ x, XT t (L1 x) (p x)) (hm : ∀ x, XP eb m (L1 x) (f x))
    (hw : ∀ x, LEs (wipeL L vs) (wipeL (L1 x) vs)) : ∀ {xs : List α} {e : Ev} {ys : List β}, Mt e (wipeL L vs) → compT p f xs = some ys → ∃ e', compL g t m vs (xs.map ea) e = some (ys.map eb, e') ∧ Mt e' (wipeL L vs)
  | [], e, ys, he, h => by cases h; exact ⟨e, rfl, he⟩
  | x :: r, e, ys, he, h => by
    unfold compT at h
    obtain ⟨b, hb, h⟩ := Option.bind_eq_some_iff.mp h
    obtain ⟨e1, q1, q2⟩ := hg x e he
    obtain ⟨e2, p1, p2⟩ := ht x e1 q2 b hb
    rw [List.map_cons]
    unfold compL
    rw [q1]; dsimp only
    rw [p1]
    cases b with
    | false =>
      dsimp only
      exact compL_T hg ht hm hw ((p2.wipe vs).weak (hw x)) h
    | true =>
      dsimp only
      rw [if_pos rfl] at h
      obtain ⟨y, hy, h⟩ := Option.bind_eq_some_iff.mp h
      obtain ⟨ys', hys, rfl⟩ := Option.map_eq_some_iff.mp h
      obtain ⟨e3, r1, r2⟩ := hm x e2 p2 y hy
      rw [r1]; dsimp only
      obtain ⟨e4, s1, s2⟩ := compL_T hg ht hm hw ((r2.wipe vs).weak (hw x)) hys
      rw [s1]
      exact ⟨e4, rfl, s2⟩
theorem x_comp {it : M (List PyData)} {g : St1} {t : M Bool} {m : M PyData} {vs : List Nat} {ti : Option (List α)} {p : α → Option Bool} {f : α → Option β} {L1 : α → SL} {L' : SL} (hi : XI2 ea it L' ti L) (hg : ∀ x, XG g (ea x) (wipeL L vs) (L1 x)) (hw : ∀ x, LEs (wipeL L vs) (wipeL (L1 x) vs)) (ht : ∀ x, XT t (L1 x) (p x)) (hm : ∀ x, XP eb m (L1 x) (f x)) :
    XE (eL eb) (mComp it g t m vs) L' (ti.bind fun xs => compG p f xs) L := fun e he v hv => by
  obtain ⟨xs, hx, hv⟩ := Option.bind_eq_some_iff.mp hv
  obtain ⟨e1, q1, q2⟩ := hi e he xs hx
  unfold compG at hv
  split at hv
  · rename_i hl
    obtain ⟨e2, p1, p2⟩ := compL_T hg ht hm hw (q2.wipe vs) hv
    refine ⟨_, ?_, q2.back (L2 := L) p2 rfl fun _ _ _ z => z⟩
    unfold mComp
    rw [q1]; dsimp only
    rw [if_pos (by rw [List.length_map]; exact hl), p1]
  · cases hv
theorem x_compI {it : M (List PyData)} {g : St1} {t : M Bool} {m : M PyData} {vs : List Nat} {ti : Option (List α)} {p : α → Option Bool} {f : α → Option β} {L1 : α → SL} (hi : XI ea it L ti) (hg : ∀ x, XG g (ea x) (wipeL L vs) (L1 x)) (hw : ∀ x, LEs (wipeL L vs) (wipeL (L1 x) vs)) (ht : ∀ x, XT t (L1 x) (p x)) (hm : ∀ x, XP eb m (L1 x) (f x)) :
    XP (eL eb) (mComp it g t m vs) L (ti.bind fun xs => compG p f xs) := x_comp hi hg hw ht hm
theorem x_compIT {it : M (List PyData)} {g : St1} {t : M Bool} {m : M PyData} {vs : List Nat} {xs : List α} {p : α → Option Bool} {f : α → Option β} {L1 : α → SL} (hi : XI ea it L (some xs)) (hg : ∀ x, XG g (ea x) (wipeL L vs) (L1 x)) (hw : ∀ x, LEs (wipeL L vs) (wipeL (L1 x) vs)) (ht : ∀ x, XT t (L1 x) (p x)) (hm : ∀ x, XP eb m (L1 x) (f x)) :
    XP (eL eb) (mComp it g t m vs) L (compG p f xs) := x_comp hi hg hw ht hm
theorem x_compT {it : M (List PyData)} {g : St1} {t : M Bool} {m : M PyData} {vs : List Nat} {xs : List α} {p : α → Option Bool} {f : α → Option β} {L1 : α → SL} {L' : SL} (hi : XI2 ea it L' (some xs) L) (hg : ∀ x, XG g (ea x) (wipeL L vs) (L1 x)) (hw : ∀ x, LEs (wipeL L vs) (wipeL (L1 x) vs)) (ht : ∀ x, XT t (L1 x) (p x)) (hm : ∀ x, XP eb m (L1 x) (f x)) :
    XE (eL eb) (mComp it g t m vs) L' (compG p f xs) L := x_comp hi hg hw ht hm
theorem xi_rng1T {m : M (List Opd)} {i : Int} (h : XA false m L (some (i, ())) (fC eI f0)) : XI eI (mRng rg1 m) L (rng1T i) := xi_rng1 h
theorem xi_rng2T {m : M (List Opd)} {i j : Int} (h : XA false m L (some (i, j, ())) (fC eI (fC eI f0))) : XI eI (mRng rg2 m) L (rng2T i j) := xi_rng2 h
theorem xi_anyT {m : M PyData} {d : PyData} (h : XP eA m L (some d)) : XI eA (mIt m) L (itsOf d) := xi_any h
theorem xi_zipT {m : M (List Opd)} {la : List α} {lb : List β} {A : List α → PyData} {B' : List β → PyData} (hA : ∀ l, itsOf (A l) = some (l.map ea)) (hB : ∀ l, itsOf (B' l) = some (l.map eb)) (h : XA false m L (some (la, lb, ())) (fC A (fC B' f0))) : XI (eTu (fC ea (f1 eb))) (mZip m) L (zipT la lb) := xi_zip hA hB h
theorem xt_yes : XT mYes L (some true) := fun e he v hv => by cases hv; exact ⟨e, rfl, he⟩
theorem compT_some {p : α → Option Bool} {f : α → Option β} {p' : α → Bool} {f' : α → β} : ∀ {xs : List α}, (∀ x ∈ xs, p x = some (p' x)) → (∀ x ∈ xs, p' x = true → f x = some (f' x)) → compT p f xs = some ((xs.filter p').map f')
  | [], _, _ => rfl
  | x :: r, h1, h2 => by
    unfold compT
    rw [h1 x List.mem_cons_self, Option.bind_some, compT_some (fun y hy => h1 y (List.mem_cons_of_mem _ hy)) fun y hy => h2 y (List.mem_cons_of_mem _ hy)]
    cases hp : p' x with
    | false => rw [List.filter_cons_of_neg (by simp [hp])]; rfl
    | true => rw [List.filter_cons_of_pos hp, h2 x List.mem_cons_self hp]; rfl
theorem compG_some {p : α → Option Bool} {f : α → Option β} {xs : List α} (p' : α → Bool) (f' : α → β) (hl : xs.length ≤ 1000000) (h1 : ∀ x ∈ xs, p x = some (p' x)) (h2 : ∀ x ∈ xs, p' x = true → f x = some (f' x)) : compG p f xs = some ((xs.filter p').map f') := by
  unfold compG; rw [if_pos hl, compT_some h1 h2]
theorem compG_map {f : α → Option β} {xs : List α} (f' : α → β) (hl : xs.length ≤ 1000000) (h2 : ∀ x ∈ xs, f x = some (f' x)) : compG (fun _ => some true) f xs = some (xs.map f') := by
  rw [compG_some (fun _ => true) f' hl (fun _ _ => rfl) fun x hx _ => h2 x hx, List.filter_eq_self.mpr fun _ _ => rfl]
end
end DL

namespace DL
open PySem PySem.Spec PyProof.Rows L2
/-! ### blocks -/
def XB {τ : Type} (s : B) (L : SL) (t : Option τ) (R : τ → Out → Prop) : Prop := ∀ e, Mt e L → ∀ v, t = some v → ∃ o, s e = some o ∧ R v o
/-- how a block ends: by a return, at its end, by break, by continue -/
inductive Ctl (ρ σ : Type) where
  | rt (v : ρ) | nx (s : σ) | bk (s : σ) | ct (s : σ)
/-- a return of a value -/
def RV {α : Type} (n : Nat) (ea : α → PyData) (v : α) (o : Out) : Prop := ∃ e, o = .rt (ea v) e ∧ e.length = n
/-- .. of a def that draws on the source -/
def RVS {α : Type} (n : Nat) (ea : α → PyData) (v : α × Src) (o : Out) : Prop := ∃ e, o = .rt (ea v.1) e ∧ e.length = n ∧ e[0]? = some (some (eX v.2))
/-- the end of a block, the names then -/
def RN {σ : Type} (env : σ → SL) (s : σ) (o : Out) : Prop := ∃ e, o = .nx e ∧ Mt e (env s)
def RC {ρ σ : Type} (R : ρ → Out → Prop) (env : σ → SL) (c : Ctl ρ σ) (o : Out) : Prop := match c with
  | .rt v => R v o
  | .nx s => ∃ e, o = .nx e ∧ Mt e (env s)
  | .bk s => ∃ e, o = .bk e ∧ Mt e (env s)
  | .ct s => ∃ e, o = .ct e ∧ Mt e (env s)
section
variable {α β ρ σ τ : Type} {ea : α → PyData} {eb : β → PyData} {L : SL} {R : τ → Out → Prop}
theorem xb_cv {s : B} {t t' : Option τ} (h : XB s L t R) (q : t = t') : XB s L t' R := q ▸ h
theorem xb_weak {s : B} {t : Option τ} {L' : SL} (h : XB s L' t R) (w : LEs L' L) : XB s L t R := fun e he => h e (he.weak w)
/-- the end of a block that is gone on from -/
theorem xb_nx {env : σ → SL} {s : σ} (w : LEs (env s) L) : XB sNx L (some s) (RN env) := fun e he v hv => by
  cases hv; exact ⟨_, rfl, e, rfl, he.weak w⟩
theorem xb_nxc {Rr : ρ → Out → Prop} {env : σ → SL} {s : σ} (w : LEs (env s) L) : XB sNx L (some (Ctl.nx s)) (RC Rr env) := fun e he v hv => by
  cases hv; exact ⟨_, rfl, e, rfl, he.weak w⟩
theorem xb_bk {Rr : ρ → Out → Prop} {env : σ → SL} {s : σ} (w : LEs (env s) L) : XB sBk L (some (Ctl.bk s)) (RC Rr env) := fun e he v hv => by
  cases hv; exact ⟨_, rfl, e, rfl, he.weak w⟩
theorem xb_ct {Rr : ρ → Out → Prop} {env : σ → SL} {s : σ} (w : LEs (env s) L) : XB sCt L (some (Ctl.ct s)) (RC Rr env) := fun e he v hv => by
  cases hv; exact ⟨_, rfl, e, rfl, he.weak w⟩
/-- a last statement without the end behind it -/
theorem xb_seq_nx {s : B} {t : Option τ} (h : XB (sSeq s sNx) L t R) : XB s L t R := fun e he v hv => by
  obtain ⟨o, h1, h2⟩ := h e he v hv
  refine ⟨o, ?_, h2⟩
  rw [sSeq_ap] at h1
  cases q : s e with
  | none => rw [q] at h1; cases h1
  | some o' => rw [q] at h1; cases o' <;> exact h1
/-- names bound -/
theorem xb_asg {m : M PyData} {g : St1} {r : B} {t : Option α} {T : α → Option τ} {L1 : α → SL} (h : XP ea m L t) (hg : ∀ v, XG g (ea v) L (L1 v)) (hr : ∀ v, XB r (L1 v) (T v) R) : XB (sSeq (sAsg m g) r) L (t.bind T) R := fun e he v hv => by
  obtain ⟨x, hx, hv⟩ := Option.bind_eq_some_iff.mp hv
  obtain ⟨e1, q1, q2⟩ := h e he x hx
  obtain ⟨e2, p1, p2⟩ := hg x e1 q2
  obtain ⟨o, r1, r2⟩ := hr x e2 p2 v hv
  refine ⟨o, ?_, r2⟩
  rw [sSeq_ap, sAsg_ap, q1]; simp only [Option.bind_some]
  rw [p1]; exact r1
theorem xb_asgV {m : M PyData} {g : St1} {r : B} {v : α} {T : Option τ} {L1 : SL} (h : XP ea m L (some v)) (hg : XG g (ea v) L L1) (hr : XB r L1 T R) : XB (sSeq (sAsg m g) r) L T R := fun e he x hx => by
  obtain ⟨e1, q1, q2⟩ := h e he v rfl
  obtain ⟨e2, p1, p2⟩ := hg e1 q2
  obtain ⟨o, r1, r2⟩ := hr e2 p2 x hx
  refine ⟨o, ?_, r2⟩
  rw [sSeq_ap, sAsg_ap, q1]; simp only [Option.bind_some]
  rw [p1]; exact r1
theorem xb_asgE {m : M PyData} {g : St1} {r : B} {t : Option α} {T : α → Option τ} {L1 : α → SL} {L' : SL} (h : XE ea m L t L') (hg : ∀ v, XG g (ea v) L' (L1 v)) (hr : ∀ v, XB r (L1 v) (T v) R) : XB (sSeq (sAsg m g) r) L (t.bind T) R := fun e he v hv => by
  obtain ⟨x, hx, hv⟩ := Option.bind_eq_some_iff.mp hv
  obtain ⟨e1, q1, q2⟩ := h e he x hx
  obtain ⟨e2, p1, p2⟩ := hg x e1 q2
  obtain ⟨o, r1, r2⟩ := hr x e2 p2 v hv
  refine ⟨o, ?_, r2⟩
  rw [sSeq_ap, sAsg_ap, q1]; simp only [Option.bind_some]
  rw [p1]; exact r1
/-- a name takes what another one owned -/
theorem xb_take {i j : Nat} {r : B} {v : α} {T : Option τ} (h : L[i]? = some (some (some (ea v)))) (hr : XB r ((L.set i (some none)).set j (some (some (ea v)))) T R) : XB (sSeq (sAsg (mTake i) (gNm j)) r) L T R := fun e he x hx => by
  have hi := he.at_ i _ h
  obtain ⟨o, r1, r2⟩ := hr _ ((he.set i none).set j _) x hx
  refine ⟨o, ?_, r2⟩
  rw [sSeq_ap, sAsg_ap, mTake_ap, hi]
  exact r1
/-- several at once -/
def XM {α : Type} (m : M (List PyData)) (L : SL) (t : Option α) (fs : α → List PyData) : Prop := ∀ e, Mt e L → ∀ v, t = some v → ∃ e', m e = some (fs v, e') ∧ Mt e' L
theorem xm_nil : XM mF0 L (some ()) f0 := fun e he v hv => ⟨e, rfl, he⟩
theorem xm_cons {m : M PyData} {r : M (List PyData)} {t : Option α} {t' : Option β} {fs : β → List PyData} (h : XP ea m L t) (hr : XM r L t' fs) : XM (mF m r) L (t.bind fun a => t'.map fun b => (a, b)) (fC ea fs) := fun e he v hv => by
  obtain ⟨a, h1, hv⟩ := Option.bind_eq_some_iff.mp hv
  obtain ⟨b, h2, rfl⟩ := Option.map_eq_some_iff.mp hv
  obtain ⟨e1, q1, q2⟩ := h e he a h1
  obtain ⟨e2, p1, p2⟩ := hr e1 q2 b h2
  exact ⟨e2, by rw [mF_ap, q1]; simp only [Option.bind_some]; rw [p1]; rfl, p2⟩
theorem xm_cv {m : M (List PyData)} {t t' : Option α} {fs : α → List PyData} (h : XM m L t fs) (q : t = t') : XM m L t' fs := q ▸ h
def stoL : List Nat → List PyData → SL → SL
  | i :: is, d :: ds, L => stoL is ds (L.set i (some (some d)))
  | _, _, L => L
theorem Mt.sto : ∀ {is : List Nat} {ds : List PyData} {e : Ev} {L : SL}, Mt e L → Mt (stoE is ds e) (stoL is ds L)
  | [], ds, e, L, h => by cases ds <;> exact h
  | i :: is, [], e, L, h => h
  | i :: is, d :: ds, e, L, h => Mt.sto (is := is) (ds := ds) (h.set i _)
theorem xb_par {is : List Nat} {m : M (List PyData)} {r : B} {t : Option α} {T : α → Option τ} {fs : α → List PyData} (h : XM m L t fs) (hr : ∀ v, XB r (stoL is (fs v) L) (T v) R) : XB (sSeq (sParK is m) r) L (t.bind T) R := fun e he v hv => by
  obtain ⟨x, hx, hv⟩ := Option.bind_eq_some_iff.mp hv
  obtain ⟨e1, q1, q2⟩ := h e he x hx
  obtain ⟨o, r1, r2⟩ := hr x _ (Mt.sto q2) v hv
  refine ⟨o, ?_, r2⟩
  rw [sSeq_ap, sParK_ap, q1]; exact r1
theorem xb_parG {g : List PyData → Ev → Option Ev} {m : M (List PyData)} {r : B} {t : Option α} {T : α → Option τ} {fs : α → List PyData} {L1 : α → SL} (h : XM m L t fs) (hg : ∀ v, XGs g (fs v) L (L1 v)) (hr : ∀ v, XB r (L1 v) (T v) R) : XB (sSeq (sParG m g) r) L (t.bind T) R := fun e he v hv => by
  obtain ⟨x, hx, hv⟩ := Option.bind_eq_some_iff.mp hv
  obtain ⟨e1, q1, q2⟩ := h e he x hx
  obtain ⟨e2, p1, p2⟩ := hg x e1 q2
  obtain ⟨o, r1, r2⟩ := hr x e2 p2 v hv
  refine ⟨o, ?_, r2⟩
  rw [sSeq_ap, sParG_ap, q1]; simp only [Option.bind_some]
  rw [p1]; exact r1
theorem xb_aug {γ : Type} {ec : γ → PyData} {i : Nat} {g : PyData → PyData → Option PyData} {m : M PyData} {r : B} {a : α} {t : Option β} {f : α → β → Option γ} {T : γ → Option τ} (op : Op2T g ea eb ec f) (hi : L[i]? = some (some (some (ea a)))) (h : XP eb m L t) (hr : ∀ v, XB r (L.set i (some (some (ec v)))) (T v) R) :
    XB (sSeq (sAug i g m) r) L ((t.bind fun b => f a b).bind T) R := fun e he v hv => by
  obtain ⟨x, hx, hv⟩ := Option.bind_eq_some_iff.mp hv
  obtain ⟨b, hb, hx⟩ := Option.bind_eq_some_iff.mp hx
  obtain ⟨e1, q1, q2⟩ := h e he b hb
  obtain ⟨o, r1, r2⟩ := hr x _ (q2.set i _) v hv
  refine ⟨o, ?_, r2⟩
  rw [sSeq_ap, sAug_ap, he.at_ i _ hi]
  simp only [Option.join_some, Option.bind_some]
  rw [q1]; simp only [Option.bind_some]
  rw [op a b x hx]; exact r1
def appT {α : Type} (l : List α) (x : α) : Option (List α) := if l.length ≤ 1000000 then some (l ++ [x]) else none
theorem appT_ok {l : List α} {x : α} (h : l.length ≤ 1000000) : appT l x = some (l ++ [x]) := if_pos h
theorem xb_app {i : Nat} {m : M PyData} {r : B} {l : List α} {t : Option α} {T : List α → Option τ} (hi : L[i]? = some (some (some (eL ea l)))) (h : XP ea m L t) (hr : ∀ v, XB r (L.set i (some (some (eL ea v)))) (T v) R) :
    XB (sSeq (sExpr (mApp i m)) r) L ((t.bind fun x => appT l x).bind T) R := fun e he v hv => by
  obtain ⟨y, hy, hv⟩ := Option.bind_eq_some_iff.mp hv
  obtain ⟨x, hx, hy⟩ := Option.bind_eq_some_iff.mp hy
  unfold appT at hy
  split at hy
  · rename_i hl
    cases hy
    obtain ⟨e1, q1, q2⟩ := h e he x hx
    obtain ⟨o, r1, r2⟩ := hr _ _ (q2.set i _) v hv
    refine ⟨o, ?_, r2⟩
    have h1 := he.at_ i _ hi
    have h2 := q2.at_ i _ hi
    rw [sSeq_ap, sExpr_ap, mApp_ap, lstAt_ap, h1]
    simp only [Option.join_some, Option.bind_some, asL_list]
    rw [q1]; simp only [Option.bind_some]
    rw [lstAt_ap, h2]
    simp only [Option.join_some, Option.bind_some, asL_list]
    rw [if_pos (by rw [List.length_map]; exact hl)]
    have e3 : List.map ea l ++ [ea x] = List.map ea (l ++ [x]) := by rw [List.map_append]; rfl
    rw [e3]; exact r1
  · cases hy
theorem xb_augE {γ : Type} {ec : γ → PyData} {i : Nat} {g : PyData → PyData → Option PyData} {m : M PyData} {r : B} {a : α} {t : Option β} {f : α → β → Option γ} {t' : Option γ} {T : γ → Option τ} (op : Op2T g ea eb ec f) (hi : L[i]? = some (some (some (ea a)))) (h : XP eb m L t) (q : t' = t.bind fun b => f a b) (hr : ∀ v, XB r (L.set i (some (some (ec v)))) (T v) R) :
    XB (sSeq (sAug i g m) r) L (t'.bind T) R := q ▸ xb_aug op hi h hr
theorem xb_appE {i : Nat} {m : M PyData} {r : B} {l : List α} {t : Option α} {t' : Option (List α)} {T : List α → Option τ} (hi : L[i]? = some (some (some (eL ea l)))) (h : XP ea m L t) (q : t' = t.bind fun x => appT l x) (hr : ∀ v, XB r (L.set i (some (some (eL ea v)))) (T v) R) :
    XB (sSeq (sExpr (mApp i m)) r) L (t'.bind T) R := q ▸ xb_app hi h hr
theorem xb_expr {m : M PyData} {r : B} {t : Option α} {T : Option τ} (h : XP ea m L t) (hr : XB r L T R) : XB (sSeq (sExpr m) r) L (t.bind fun _ => T) R := fun e he v hv => by
  obtain ⟨x, hx, hv⟩ := Option.bind_eq_some_iff.mp hv
  obtain ⟨e1, q1, q2⟩ := h e he x hx
  obtain ⟨o, r1, r2⟩ := hr e1 q2 v hv
  exact ⟨o, by rw [sSeq_ap, sExpr_ap, q1]; exact r1, r2⟩
/-- a return; k: what stands for it -/
theorem xb_ret {m : M PyData} {t : Option α} {k : α → τ} (hk : ∀ v e, e.length = L.length → R (k v) (.rt (ea v) e)) (h : XW ea m L t) : XB (sRet m) L (t.map k) R := fun e he v hv => by
  obtain ⟨x, hx, rfl⟩ := Option.map_eq_some_iff.mp hv
  obtain ⟨e1, q1, q2⟩ := h e he x hx
  exact ⟨_, by rw [sRet_ap, q1]; rfl, hk x e1 q2⟩
theorem xb_retS {m : M PyData} {r : B} {t : Option α} {k : α → τ} (hk : ∀ v e, e.length = L.length → R (k v) (.rt (ea v) e)) (h : XW ea m L t) : XB (sSeq (sRet m) r) L (t.map k) R := fun e he v hv => by
  obtain ⟨x, hx, rfl⟩ := Option.map_eq_some_iff.mp hv
  obtain ⟨e1, q1, q2⟩ := h e he x hx
  exact ⟨_, by rw [sSeq_ap, sRet_ap, q1]; rfl, hk x e1 q2⟩
theorem xb_retN {k : τ} (hk : ∀ e, e.length = L.length → R k (.rt .none e)) : XB sRetN L (some k) R := fun e he v hv => by cases hv; exact ⟨_, rfl, hk e he.len⟩
theorem xb_retI {α : Type} {ea : α → PyData} {L : SL} {R : α → Out → Prop} {m : M PyData} {t : Option α} (hk : ∀ v e, e.length = L.length → R v (.rt (ea v) e)) (h : XW ea m L t) : XB (sRet m) L t R := fun e he v hv => by
  obtain ⟨e1, q1, q2⟩ := h e he v hv
  exact ⟨_, by rw [sRet_ap, q1]; rfl, hk v e1 q2⟩
theorem xb_seq_ret {m : M PyData} {r : B} {t : Option τ} (h : XB (sRet m) L t R) : XB (sSeq (sRet m) r) L t R := fun e he v hv => by
  obtain ⟨o, h1, h2⟩ := h e he v hv
  refine ⟨o, ?_, h2⟩
  rw [sSeq_ap, h1]
  rw [sRet_ap] at h1
  obtain ⟨x, _, rfl⟩ := Option.map_eq_some_iff.mp h1
  rfl
theorem xb_assoc {a b r : B} {t : Option τ} (h : XB (sSeq a (sSeq b r)) L t R) : XB (sSeq (sSeq a b) r) L t R := fun e he v hv => by
  obtain ⟨o, h1, h2⟩ := h e he v hv
  refine ⟨o, ?_, h2⟩
  rw [sSeq_ap] at h1 ⊢
  rw [sSeq_ap]
  cases q : a e with
  | none => rw [q] at h1; cases h1
  | some o' =>
    rw [q] at h1
    cases o' with
    | nx e1 =>
      dsimp only at h1 ⊢
      rw [sSeq_ap] at h1
      exact h1
    | _ => exact h1
theorem xb_nxr {r : B} {t : Option τ} (h : XB r L t R) : XB (sSeq sNx r) L t R := fun e he v hv => by
  obtain ⟨o, h1, h2⟩ := h e he v hv
  exact ⟨o, by rw [sSeq_ap]; exact h1, h2⟩
theorem rv_ok {α : Type} {ea : α → PyData} {n : Nat} {L : SL} (hl : L.length = n) : ∀ v e, e.length = L.length → RV n ea v (.rt (ea v) e) := fun v e he => ⟨e, rfl, he.trans hl⟩
theorem rv_rt {α : Type} {ea : α → PyData} {n : Nat} : ∀ v o, RV n ea v o → ∃ d e, o = .rt d e := fun v o ⟨e, h, _⟩ => ⟨_, e, h⟩
theorem rv_nn {α : Type} {ea : α → PyData} {n : Nat} : ∀ v o, RV n ea v o → ∀ e', o ≠ .nx e' := fun v o ⟨e, h, _⟩ e' q => by rw [h] at q; cases q
theorem rvs_rt {α : Type} {ea : α → PyData} {n : Nat} : ∀ v o, RVS n ea v o → ∃ d e, o = .rt d e := fun v o ⟨e, h, _⟩ => ⟨_, e, h⟩
theorem rvs_nn {α : Type} {ea : α → PyData} {n : Nat} : ∀ v o, RVS n ea v o → ∀ e', o ≠ .nx e' := fun v o ⟨e, h, _⟩ e' q => by rw [h] at q; cases q
/-- if, where nothing is behind it, or where both parts leave -/
theorem xb_if {c : M Bool} {m n : B} {tc : Option Bool} {t t' : Option τ} (hc : XT c L tc) (h : XB m L t R) (h' : XB n L t' R) : XB (sIf c m n) L (tc.bind fun b => if b = true then t else t') R := fun e he v hv => by
  obtain ⟨x, hx, hv⟩ := Option.bind_eq_some_iff.mp hv
  obtain ⟨e1, q1, q2⟩ := hc e he x hx
  rw [sIf_ap, q1]
  cases x with
  | true => exact h e1 q2 v hv
  | false => exact h' e1 q2 v hv
/-- a block that doesn't end by itself -/
def Gone (s : B) : Prop := ∀ e o, s e = some o → ∀ e', o ≠ .nx e'
theorem gone_ret {m : M PyData} : Gone (sRet m) := fun e o h e' q => by
  subst q; rw [sRet_ap] at h; obtain ⟨x, _, h⟩ := Option.map_eq_some_iff.mp h; cases h
theorem gone_retN : Gone sRetN := fun e o h e' q => by subst q; cases h
theorem gone_bk : Gone sBk := fun e o h e' q => by subst q; cases h
theorem gone_ct : Gone sCt := fun e o h e' q => by subst q; cases h
theorem gone_seq {s r : B} (h : Gone r) : Gone (sSeq s r) := fun e o h1 e' q => by
  rw [sSeq_ap] at h1
  cases z : s e with
  | none => rw [z] at h1; cases h1
  | some o' => rw [z] at h1; cases o' with
    | nx e2 => exact h e2 o h1 e' q
    | _ => cases h1; cases q
theorem gone_if {c : M Bool} {m n : B} (h : Gone m) (h' : Gone n) : Gone (sIf c m n) := fun e o h1 e' q => by
  rw [sIf_ap] at h1
  obtain ⟨p, hp, h1⟩ := Option.bind_eq_some_iff.mp h1
  split at h1
  · exact h _ o h1 e' q
  · exact h' _ o h1 e' q
/-- if, then the rest: the first part leaves -/
theorem xb_ifG {c : M Bool} {m r : B} {tc : Option Bool} {t t' : Option τ} (hc : XT c L tc) (hm : Gone m) (h : XB m L t R) (h' : XB r L t' R) : XB (sSeq (sIf c m sNx) r) L (tc.bind fun b => if b = true then t else t') R := fun e he v hv => by
  obtain ⟨x, hx, hv⟩ := Option.bind_eq_some_iff.mp hv
  obtain ⟨e1, q1, q2⟩ := hc e he x hx
  rw [sSeq_ap, sIf_ap, q1]
  cases x with
  | true =>
    obtain ⟨o, r1, r2⟩ := h e1 q2 v hv
    refine ⟨o, ?_, r2⟩
    dsimp only [Option.bind_some]
    rw [if_pos rfl, r1]
    cases o with
    | nx e' => exact absurd rfl (hm e1 _ r1 e')
    | _ => rfl
  | false => exact h' e1 q2 v hv
/-- .. the first part leaves, the second goes on -/
theorem xb_ifG2 {c : M Bool} {m n r : B} {tc : Option Bool} {t t' : Option τ} (hc : XT c L tc) (hm : Gone m) (h : XB m L t R) (h' : XB (sSeq n r) L t' R) : XB (sSeq (sIf c m n) r) L (tc.bind fun b => if b = true then t else t') R := fun e he v hv => by
  obtain ⟨x, hx, hv⟩ := Option.bind_eq_some_iff.mp hv
  obtain ⟨e1, q1, q2⟩ := hc e he x hx
  rw [sSeq_ap, sIf_ap, q1]
  cases x with
  | true =>
    obtain ⟨o, r1, r2⟩ := h e1 q2 v hv
    refine ⟨o, ?_, r2⟩
    dsimp only [Option.bind_some]
    rw [if_pos rfl, r1]
    cases o with
    | nx e' => exact absurd rfl (hm e1 _ r1 e')
    | _ => rfl
  | false =>
    obtain ⟨o, r1, r2⟩ := h' e1 q2 v hv
    exact ⟨o, r1, r2⟩
/-- .. the first part goes on, the second leaves -/
theorem xb_ifG3 {c : M Bool} {m n r : B} {tc : Option Bool} {t t' : Option τ} (hc : XT c L tc) (hn : Gone n) (h : XB (sSeq m r) L t R) (h' : XB n L t' R) : XB (sSeq (sIf c m n) r) L (tc.bind fun b => if b = true then t else t') R := fun e he v hv => by
  obtain ⟨x, hx, hv⟩ := Option.bind_eq_some_iff.mp hv
  obtain ⟨e1, q1, q2⟩ := hc e he x hx
  rw [sSeq_ap, sIf_ap, q1]
  cases x with
  | false =>
    obtain ⟨o, r1, r2⟩ := h' e1 q2 v hv
    refine ⟨o, ?_, r2⟩
    dsimp only [Option.bind_some]
    rw [if_neg (by decide), r1]
    cases o with
    | nx e' => exact absurd rfl (hn e1 _ r1 e')
    | _ => rfl
  | true =>
    obtain ⟨o, r1, r2⟩ := h e1 q2 v hv
    exact ⟨o, r1, r2⟩
theorem xb_ifT {c : M Bool} {m n : B} {b : Bool} {t t' : Option τ} (hc : XT c L (some b)) (h : XB m L t R) (h' : XB n L t' R) : XB (sIf c m n) L (if b = true then t else t') R := xb_if hc h h'
theorem xb_ifGT {c : M Bool} {m r : B} {b : Bool} {t t' : Option τ} (hc : XT c L (some b)) (hm : Gone m) (h : XB m L t R) (h' : XB r L t' R) : XB (sSeq (sIf c m sNx) r) L (if b = true then t else t') R := xb_ifG hc hm h h'
theorem xb_ifG2T {c : M Bool} {m n r : B} {b : Bool} {t t' : Option τ} (hc : XT c L (some b)) (hm : Gone m) (h : XB m L t R) (h' : XB (sSeq n r) L t' R) : XB (sSeq (sIf c m n) r) L (if b = true then t else t') R := xb_ifG2 hc hm h h'
theorem xb_ifG3T {c : M Bool} {m n r : B} {b : Bool} {t t' : Option τ} (hc : XT c L (some b)) (hn : Gone n) (h : XB (sSeq m r) L t R) (h' : XB n L t' R) : XB (sSeq (sIf c m n) r) L (if b = true then t else t') R := xb_ifG3 hc hn h h'
/-- a part that goes on, then the rest -/
theorem xb_thn {s r : B} {t : Option σ} {env : σ → SL} {T : σ → Option τ} (h : XB s L t (RN env)) (hr : ∀ s, XB r (env s) (T s) R) : XB (sSeq s r) L (t.bind T) R := fun e he v hv => by
  obtain ⟨x, hx, hv⟩ := Option.bind_eq_some_iff.mp hv
  obtain ⟨o, q1, e1, rfl, q2⟩ := h e he x hx
  obtain ⟨o, r1, r2⟩ := hr x e1 q2 v hv
  exact ⟨o, by rw [sSeq_ap, q1]; exact r1, r2⟩
/-- a part that goes on or leaves -/
def ctlK {ρ σ τ : Type} (k : ρ → τ) (kb kc : σ → Option τ) (T : σ → Option τ) : Ctl ρ σ → Option τ
  | .rt v => some (k v)
  | .nx s => T s
  | .bk s => kb s
  | .ct s => kc s
theorem xb_thnC {s r : B} {t : Option (Ctl ρ σ)} {env : σ → SL} {T kb kc : σ → Option τ} {Rr : ρ → Out → Prop} {k : ρ → τ} (hk : ∀ v o, Rr v o → R (k v) o) (hg : ∀ v o, Rr v o → ∀ e', o ≠ .nx e')
    (hb : ∀ s v, kb s = some v → ∀ e, Mt e (env s) → R v (.bk e)) (hc : ∀ s v, kc s = some v → ∀ e, Mt e (env s) → R v (.ct e))
    (h : XB s L t (RC Rr env)) (hr : ∀ s, XB r (env s) (T s) R) : XB (sSeq s r) L (t.bind (ctlK k kb kc T)) R := fun e he v hv => by
  obtain ⟨x, hx, hv⟩ := Option.bind_eq_some_iff.mp hv
  obtain ⟨o, q1, q2⟩ := h e he x hx
  cases x with
  | rt w =>
    cases hv
    refine ⟨o, ?_, hk w o q2⟩
    rw [sSeq_ap, q1]
    cases o with
    | nx e' => exact absurd rfl (hg w _ q2 e')
    | _ => rfl
  | nx s =>
    obtain ⟨e1, rfl, q2⟩ := q2
    obtain ⟨o, r1, r2⟩ := hr s e1 q2 v hv
    exact ⟨o, by rw [sSeq_ap, q1]; exact r1, r2⟩
  | bk s =>
    obtain ⟨e1, rfl, q2⟩ := q2
    exact ⟨_, by rw [sSeq_ap, q1], hb s v hv e1 q2⟩
  | ct s =>
    obtain ⟨e1, rfl, q2⟩ := q2
    exact ⟨_, by rw [sSeq_ap, q1], hc s v hv e1 q2⟩
/-! ### loops -/
def forP {α σ : Type} (f : σ → α → Option σ) : List α → σ → Option σ
  | [], s => some s
  | x :: r, s => (f s x).bind (forP f r)
def forC {α ρ σ : Type} (f : σ → α → Option (Ctl ρ σ)) : List α → σ → Option (Ctl ρ σ)
  | [], s => some (.nx s)
  | x :: r, s => (f s x).bind fun c => match c with
    | .rt v => some (.rt v)
    | .nx s => forC f r s
    | .ct s => forC f r s
    | .bk s => some (.nx s)
theorem loopB_P {g : St1} {body : B} {f : σ → α → Option σ} {env : σ → SL} {L1 : σ → α → SL} (hg : ∀ s x, XG g (ea x) (env s) (L1 s x)) (hb : ∀ s x, XB body (L1 s x) (f s x) (RN env)) : ∀ {xs : List α} {s s' : σ} {e : Ev}, Mt e (env s) → forP f xs s = some s' → ∃ e', loopB g body (xs.map ea) e = some (.nx e') ∧ Mt e' (env s')
  | [], s, s', e, he, h => by cases h; exact ⟨e, rfl, he⟩
  | x :: r, s, s', e, he, h => by
    obtain ⟨s1, h1, h2⟩ := Option.bind_eq_some_iff.mp h
    obtain ⟨e1, q1, q2⟩ := hg s x e he
    obtain ⟨o, p1, e2, rfl, p2⟩ := hb s x e1 q2 s1 h1
    obtain ⟨e3, r1, r2⟩ := loopB_P hg hb p2 h2
    exact ⟨e3, (loopB_nx q1 p1).trans r1, r2⟩
theorem xb_for {it : M (List PyData)} {g : St1} {body : B} {ti : Option (List α)} {f : σ → α → Option σ} {env : σ → SL} {L1 : σ → α → SL} {s0 : σ} {L' : SL} (hi : XI2 ea it L' ti L) (w : LEs (env s0) L) (hg : ∀ s x, XG g (ea x) (env s) (L1 s x)) (hb : ∀ s x, XB body (L1 s x) (f s x) (RN env)) :
    XB (sFor it g body) L' (ti.bind fun xs => forP f xs s0) (RN env) := fun e he v hv => by
  obtain ⟨xs, hx, hv⟩ := Option.bind_eq_some_iff.mp hv
  obtain ⟨e1, q1, q2⟩ := hi e he xs hx
  obtain ⟨e2, p1, p2⟩ := loopB_P hg hb (q2.weak w) hv
  exact ⟨_, by rw [sFor_ap, q1]; exact p1, e2, rfl, p2⟩
theorem loopB_C {g : St1} {body : B} {f : σ → α → Option (Ctl ρ σ)} {env : σ → SL} {L1 : σ → α → SL} {Rr : ρ → Out → Prop} (hrt : ∀ v o, Rr v o → ∃ d e, o = .rt d e) (hg : ∀ s x, XG g (ea x) (env s) (L1 s x)) (hb : ∀ s x, XB body (L1 s x) (f s x) (RC Rr env)) :
    ∀ {xs : List α} {s : σ} {c : Ctl ρ σ} {e : Ev}, Mt e (env s) → forC f xs s = some c → ∃ o, loopB g body (xs.map ea) e = some o ∧ RC Rr env c o
  | [], s, c, e, he, h => by cases h; exact ⟨_, rfl, e, rfl, he⟩
  | x :: r, s, c, e, he, h => by
    obtain ⟨c1, h1, h2⟩ := Option.bind_eq_some_iff.mp h
    obtain ⟨e1, q1, q2⟩ := hg s x e he
    obtain ⟨o, p1, p2⟩ := hb s x e1 q2 c1 h1
    cases c1 with
    | rt v =>
      cases h2
      obtain ⟨d, e2, rfl⟩ := hrt v o p2
      exact ⟨_, loopB_rt q1 p1, p2⟩
    | nx s1 =>
      obtain ⟨e2, rfl, p2⟩ := p2
      obtain ⟨o, r1, r2⟩ := loopB_C hrt hg hb p2 h2
      exact ⟨o, (loopB_nx q1 p1).trans r1, r2⟩
    | ct s1 =>
      obtain ⟨e2, rfl, p2⟩ := p2
      obtain ⟨o, r1, r2⟩ := loopB_C hrt hg hb p2 h2
      exact ⟨o, (loopB_ct q1 p1).trans r1, r2⟩
    | bk s1 =>
      cases h2
      obtain ⟨e2, rfl, p2⟩ := p2
      refine ⟨.nx e2, ?_, e2, rfl, p2⟩
      rw [List.map_cons]
      unfold loopB
      rw [q1]; dsimp only; rw [p1]
theorem xb_forC {it : M (List PyData)} {g : St1} {body : B} {ti : Option (List α)} {f : σ → α → Option (Ctl ρ σ)} {env : σ → SL} {L1 : σ → α → SL} {s0 : σ} {Rr : ρ → Out → Prop} {L' : SL} (hrt : ∀ v o, Rr v o → ∃ d e, o = .rt d e) (hi : XI2 ea it L' ti L) (w : LEs (env s0) L) (hg : ∀ s x, XG g (ea x) (env s) (L1 s x)) (hb : ∀ s x, XB body (L1 s x) (f s x) (RC Rr env)) :
    XB (sFor it g body) L' (ti.bind fun xs => forC f xs s0) (RC Rr env) := fun e he v hv => by
  obtain ⟨xs, hx, hv⟩ := Option.bind_eq_some_iff.mp hv
  obtain ⟨e1, q1, q2⟩ := hi e he xs hx
  obtain ⟨o, p1, p2⟩ := loopB_C hrt hg hb (q2.weak w) hv
  exact ⟨o, by rw [sFor_ap, q1]; exact p1, p2⟩
def whlP {σ : Type} (c : σ → Option Bool) (f : σ → Option σ) : Nat → σ → Option σ
  | 0, _ => none
  | n + 1, s => (c s).bind fun b => if b = true then (f s).bind (whlP c f n) else some s
def whlC {ρ σ : Type} (c : σ → Option Bool) (f : σ → Option (Ctl ρ σ)) : Nat → σ → Option (Ctl ρ σ)
  | 0, _ => none
  | n + 1, s => (c s).bind fun b => if b = true then (f s).bind fun c' => match c' with
    | .rt v => some (.rt v)
    | .nx s => whlC c f n s
    | .ct s => whlC c f n s
    | .bk s => some (.nx s) else some (.nx s)
theorem whileB_C {c : M Bool} {body : B} {tc : σ → Option Bool} {f : σ → Option (Ctl ρ σ)} {env : σ → SL} {Rr : ρ → Out → Prop} (hrt : ∀ v o, Rr v o → ∃ d e, o = .rt d e) (hc : ∀ s, XT c (env s) (tc s)) (hb : ∀ s, XB body (env s) (f s) (RC Rr env)) :
    ∀ {n : Nat} {s : σ} {k : Ctl ρ σ} {e : Ev}, Mt e (env s) → whlC tc f n s = some k → ∃ o, whileB c body n e = some o ∧ RC Rr env k o
  | 0, s, k, e, he, h => by cases h
  | n + 1, s, k, e, he, h => by
    obtain ⟨b, h1, h2⟩ := Option.bind_eq_some_iff.mp h
    obtain ⟨e1, q1, q2⟩ := hc s e he b h1
    unfold whileB
    rw [q1]
    cases b with
    | false => cases h2; exact ⟨_, rfl, e1, rfl, q2⟩
    | true =>
      rw [if_pos rfl] at h2
      obtain ⟨c1, h3, h4⟩ := Option.bind_eq_some_iff.mp h2
      obtain ⟨o, p1, p2⟩ := hb s e1 q2 c1 h3
      dsimp only
      rw [p1]
      cases c1 with
      | rt v =>
        cases h4
        obtain ⟨d, e2, rfl⟩ := hrt v o p2
        exact ⟨_, rfl, p2⟩
      | nx s1 =>
        obtain ⟨e2, rfl, p2⟩ := p2
        exact whileB_C hrt hc hb p2 h4
      | ct s1 =>
        obtain ⟨e2, rfl, p2⟩ := p2
        exact whileB_C hrt hc hb p2 h4
      | bk s1 =>
        cases h4
        obtain ⟨e2, rfl, p2⟩ := p2
        exact ⟨_, rfl, e2, rfl, p2⟩
theorem xb_whlC {fuel : Ev → Nat} {n : Nat} {c : M Bool} {body : B} {tc : σ → Option Bool} {f : σ → Option (Ctl ρ σ)} {env : σ → SL} {s0 : σ} {Rr : ρ → Out → Prop} (hn : ∀ e, fuel e = n) (hrt : ∀ v o, Rr v o → ∃ d e, o = .rt d e) (w : LEs (env s0) L) (hc : ∀ s, XT c (env s) (tc s)) (hb : ∀ s, XB body (env s) (f s) (RC Rr env)) :
    XB (sWhile fuel c body) L (whlC tc f n s0) (RC Rr env) := fun e he v hv => by
  unfold sWhile
  rw [hn]
  exact whileB_C hrt hc hb (he.weak w) hv
theorem xb_whl {fuel : Ev → Nat} {n : Nat} {c : M Bool} {body : B} {tc : σ → Option Bool} {f : σ → Option σ} {env : σ → SL} {s0 : σ} (hn : ∀ e, fuel e = n) (w : LEs (env s0) L) (hc : ∀ s, XT c (env s) (tc s)) (hb : ∀ s, XB body (env s) (f s) (RN env)) :
    XB (sWhile fuel c body) L (whlP tc f n s0) (RN env) := by
  intro e he v hv
  unfold sWhile
  rw [hn]
  have : ∀ {n : Nat} {s s' : σ} {e : Ev}, Mt e (env s) → whlP tc f n s = some s' → ∃ e', whileB c body n e = some (.nx e') ∧ Mt e' (env s') := by
    intro n
    induction n with
    | zero => intro s s' e he h; cases h
    | succ n ih =>
      intro s s' e he h
      obtain ⟨b, h1, h2⟩ := Option.bind_eq_some_iff.mp h
      obtain ⟨e1, q1, q2⟩ := hc s e he b h1
      unfold whileB
      rw [q1]
      cases b with
      | false => cases h2; exact ⟨e1, rfl, q2⟩
      | true =>
        rw [if_pos rfl] at h2
        obtain ⟨c1, h3, h4⟩ := Option.bind_eq_some_iff.mp h2
        obtain ⟨o, p1, e2, rfl, p2⟩ := hb s e1 q2 c1 h3
        dsimp only
        rw [p1]
        exact ih p2 h4
  obtain ⟨e', r1, r2⟩ := this (he.weak w) hv
  exact ⟨_, r1, e', rfl, r2⟩
/-! ### defs -/
theorem outsOf_frz : ∀ {pk : List Kd} {ds : List PyData} {e : Ev}, (pk.all fun k => decide (k = .frz)) = true → pk.length = ds.length → ds.length ≤ e.length → ∃ outs, outsOf pk ds e = some outs
  | [], [], e, _, _, _ => ⟨[], rfl⟩
  | .frz :: pk, d :: ds, x :: e, h, h2, h3 => by
    obtain ⟨outs, q⟩ := outsOf_frz (pk := pk) (ds := ds) (e := e) (by simpa using h) (by simpa using h2) (by simpa using h3)
    exact ⟨d :: outs, by simp only [outsOf, q]; rfl⟩
  | [], _ :: _, _, _, h, _ => by simp at h
  | _ :: _, [], _, _, h, _ => by simp at h
  | .frz :: _, _ :: _, [], _, _, h => by simp at h
  | .l1 :: _, _, _, h, _, _ => by simp at h
  | .l2 :: _, _, _, h, _, _ => by simp at h
  | .dk :: _, _, _, h, _, _ => by simp at h
  | .dt :: _, _, _, h, _, _ => by simp at h
  | .src :: _, _, _, h, _, _ => by simp at h
/-- a def by its body -/
theorem ft_of {pk : List Kd} {n k : Nat} {mb : B} {fs : α → List PyData} {f : α → Option β} (hp : (pk.all fun k => decide (k = .frz)) = true) (hl : ∀ p, (fs p).length = k) (hpk : pk.length = k) (hkn : k ≤ n)
    (h : ∀ p, XB mb ((fs p).map (fun d => some (some d)) ++ List.replicate (n - k) (some none)) (f p) (RV n eb)) : FT (mDef .frz pk n mb) k fs eb f := fun p v hv => by
  refine ⟨hl p, ?_⟩
  obtain ⟨o, q1, e1, rfl, q2⟩ := h p ((fs p).map some ++ List.replicate (n - (fs p).length) none) ⟨by simp [hl], fun i x hi => by
    rw [List.getElem?_append] at hi ⊢
    rw [List.length_map] at hi ⊢
    split at hi
    · rename_i hlt
      rw [if_pos hlt]
      rw [List.getElem?_map] at hi ⊢
      obtain ⟨d, hd, hx⟩ := Option.map_eq_some_iff.mp hi
      rw [hd]; cases hx; rfl
    · rename_i hlt
      rw [if_neg hlt]
      rw [List.getElem?_replicate] at hi ⊢
      rw [hl p] at hi ⊢
      split at hi
      · rename_i h2; rw [if_pos h2]; cases hi; rfl
      · cases hi⟩ v hv
  obtain ⟨outs, ho⟩ := outsOf_frz (pk := pk) (ds := fs p) (e := e1) hp (by rw [hl, hpk]) (by rw [hl, q2]; exact hkn)
  refine ⟨outs, ?_⟩
  unfold mDef
  rw [q1]
  dsimp only
  unfold finB
  rw [ho]; rfl
/-- .. that may give a list of its own -/
theorem ft_ofK {rk : Kd} {pk : List Kd} {n k : Nat} {mb : B} {fs : α → List PyData} {f : α → Option β} (hp : (pk.all fun k => decide (k = .frz)) = true) (hl : ∀ p, (fs p).length = k) (hpk : pk.length = k) (hkn : k ≤ n)
    (h : ∀ p, XB mb ((fs p).map (fun d => some (some d)) ++ List.replicate (n - k) (some none)) (f p) (RV n eb)) : FT (mDef rk pk n mb) k fs eb f := fun p v hv => by
  have := ft_of hp hl hpk hkn h p v hv
  obtain ⟨h1, outs, h2⟩ := this
  refine ⟨h1, outs, ?_⟩
  obtain ⟨o, q1, e1, rfl, q2⟩ := h p ((fs p).map some ++ List.replicate (n - (fs p).length) none) ⟨by simp [hl], fun i x hi => by
    rw [List.getElem?_append] at hi ⊢
    rw [List.length_map] at hi ⊢
    split at hi
    · rename_i hlt
      rw [if_pos hlt]
      rw [List.getElem?_map] at hi ⊢
      obtain ⟨d, hd, hx⟩ := Option.map_eq_some_iff.mp hi
      rw [hd]; cases hx; rfl
    · rename_i hlt
      rw [if_neg hlt]
      rw [List.getElem?_replicate] at hi ⊢
      rw [hl p] at hi ⊢
      split at hi
      · rename_i h2; rw [if_pos h2]; cases hi; rfl
      · cases hi⟩ v hv
  unfold mDef at h2 ⊢
  rw [q1] at h2 ⊢
  exact h2
end
end DL

namespace DL
open PySem PySem.Spec PyProof.Rows L2
/-! ### what draws on the source: name 0 of the def -/
def XS {α : Type} (enc : α → PyData) (m : M PyData) (L : Src → SL) (t : Src → Option (α × Src)) : Prop := ∀ s e, Mt e (L s) → ∀ v s', t s = some (v, s') → ∃ e', m e = some (enc v, e') ∧ Mt e' (L s')
def XSB (m : M Bool) (L : Src → SL) (t : Src → Option (Bool × Src)) : Prop := ∀ s e, Mt e (L s) → ∀ v s', t s = some (v, s') → ∃ e', m e = some (v, e') ∧ Mt e' (L s')
def XSO {α : Type} (si : Nat) (enc : α → PyData) (own : Bool) (m : M Opd) (L : Src → SL) (t : Src → Option (α × Src)) : Prop := ∀ s e, Mt e (L s) → ∀ v s', t s = some (v, s') → ∃ o e', m e = some (o, e') ∧ Mt e' (L s') ∧ (∀ s2 e2, Mt e2 (L s2) → o.get e2 = some (enc v)) ∧ o.own = own ∧ o ≠ .slot si
def XSA {α : Type} (si : Nat) (own : Bool) (m : M (List Opd)) (L : Src → SL) (t : Src → Option (α × Src)) (fs : α → List PyData) : Prop := ∀ s e, Mt e (L s) → ∀ v s', t s = some (v, s') → ∃ os e', m e = some (os, e') ∧ Mt e' (L s') ∧ (∀ s2 e2, Mt e2 (L s2) → getAll os e2 = some (fs v)) ∧ os.any Opd.own = own ∧ noSlot si os = true
def XSI {α : Type} (enc : α → PyData) (m : M (List PyData)) (L : Src → SL) (t : Src → Option (List α × Src)) : Prop := ∀ s e, Mt e (L s) → ∀ v s', t s = some (v, s') → ∃ e', m e = some (v.map enc, e') ∧ Mt e' (L s')
def XSM {α : Type} (m : M (List PyData)) (L : Src → SL) (t : Src → Option (α × Src)) (fs : α → List PyData) : Prop := ∀ s e, Mt e (L s) → ∀ v s', t s = some (v, s') → ∃ e', m e = some (fs v, e') ∧ Mt e' (L s')
/-- a step of the state behind another -/
abbrev thn2 {α β : Type} (a : Src → Option (α × Src)) (f : α → Src → Option (β × Src)) : Src → Option (β × Src) := fun s => (a s).bind fun p => f p.1 p.2
abbrev lif {α : Type} (t : Option α) : Src → Option (α × Src) := fun s => t.map fun v => (v, s)
section
variable {α β γ : Type} {ea : α → PyData} {eb : β → PyData} {ec : γ → PyData} {L : Src → SL} {o1 o2 own : Bool} {si : Nat}
theorem lif_some {t : Option α} {s s' : Src} {v : α} (h : lif t s = some (v, s')) : t = some v ∧ s' = s := by
  obtain ⟨x, hx, h2⟩ := Option.map_eq_some_iff.mp h
  cases h2
  exact ⟨hx, rfl⟩
theorem thn2_some {a : Src → Option (α × Src)} {f : α → Src → Option (β × Src)} {s s2 : Src} {v : β} (h : thn2 a f s = some (v, s2)) : ∃ x s1, a s = some (x, s1) ∧ f x s1 = some (v, s2) := by
  obtain ⟨⟨x, s1⟩, h1, h2⟩ := Option.bind_eq_some_iff.mp h
  exact ⟨x, s1, h1, h2⟩
theorem xs_pure {m : M PyData} {t : Option α} (h : ∀ s, XP ea m (L s) t) : XS ea m L (lif t) := fun s e he v s' hv => by
  obtain ⟨h1, rfl⟩ := lif_some hv
  exact h _ e he v h1
theorem xsb_pure {m : M Bool} {t : Option Bool} (h : ∀ s, XT m (L s) t) : XSB m L (lif t) := fun s e he v s' hv => by
  obtain ⟨h1, rfl⟩ := lif_some hv
  exact h _ e he v h1
theorem xsi_pure {m : M (List PyData)} {t : Option (List α)} (h : ∀ s, XI ea m (L s) t) : XSI ea m L (lif t) := fun s e he v s' hv => by
  obtain ⟨h1, rfl⟩ := lif_some hv
  exact h _ e he v h1
theorem xs_cv {m : M PyData} {t t' : Src → Option (α × Src)} (h : XS ea m L t) (q : t = t') : XS ea m L t' := q ▸ h
theorem xsb_cv {m : M Bool} {t t' : Src → Option (Bool × Src)} (h : XSB m L t) (q : t = t') : XSB m L t' := q ▸ h
theorem xsa_cv {m : M (List Opd)} {t t' : Src → Option (α × Src)} {fs : α → List PyData} (h : XSA si own m L t fs) (q : t = t') : XSA si own m L t' fs := q ▸ h
theorem xsm_cv {m : M (List PyData)} {t t' : Src → Option (α × Src)} {fs : α → List PyData} (h : XSM m L t fs) (q : t = t') : XSM m L t' fs := q ▸ h
theorem xsi_cv {m : M (List PyData)} {t t' : Src → Option (List α × Src)} (h : XSI ea m L t) (q : t = t') : XSI ea m L t' := q ▸ h
theorem xs_up {m : M PyData} {t : Src → Option (α × Src)} (f : α → β) (q : ∀ v, eb (f v) = ea v) (h : XS ea m L t) : XS eb m L (thn2 t fun v s => some (f v, s)) := fun s e he v s' hv => by
  obtain ⟨x, s1, h1, h2⟩ := thn2_some hv
  cases h2
  rw [q]; exact h s e he x _ h1
theorem xso_val {m : M PyData} {t : Src → Option (α × Src)} (h : XS ea m L t) : XSO si ea false (mVal m) L t := fun s e he v s' hv => by
  obtain ⟨e', h1, h2⟩ := h s e he v s' hv
  exact ⟨.val (ea v), e', by rw [mVal_ap, h1]; rfl, h2, fun _ _ _ => rfl, rfl, fun q => by cases q⟩
theorem xso_slot {i : Nat} {v : α} (hi : i ≠ si) (h : ∀ s, (L s)[i]? = some (some (some (ea v)))) : XSO si ea true (mSlot i) L (fun s => some (v, s)) := fun s e he x s' hx => by
  cases hx
  have := he.at_ i _ (h s)
  refine ⟨.slot i, e, by rw [mSlot_ap, this]; rfl, he, fun s2 e2 h2 => ?_, rfl, fun q => by cases q; exact hi rfl⟩
  rw [getO_slot, h2.at_ i _ (h s2)]; rfl
theorem xso_up {m : M Opd} {t : Src → Option (α × Src)} (f : α → β) (q : ∀ v, eb (f v) = ea v) (h : XSO si ea own m L t) : XSO si eb own m L (thn2 t fun v s => some (f v, s)) := fun s e he v s' hv => by
  obtain ⟨x, s1, h1, h2⟩ := thn2_some hv
  cases h2
  rw [q]; exact h s e he x _ h1
theorem xs_bin {g : PyData → PyData → Option PyData} {ma mb : M Opd} {ta : Src → Option (α × Src)} {tb : Src → Option (β × Src)} {f : α → β → Option γ} (op : Op2T g ea eb ec f) (ha : XSO si ea o1 ma L ta) (hb : XSO si eb o2 mb L tb) (hi : OkI (o1 || o2) ec) :
    XS ec (mBin g ma mb) L (thn2 ta fun a => thn2 tb fun b => lif (f a b)) := fun s e he v s' hv => by
  obtain ⟨a, s1, h1, hv⟩ := thn2_some hv
  obtain ⟨b, s2, h2, hv⟩ := thn2_some hv
  obtain ⟨h3, rfl⟩ := lif_some hv
  obtain ⟨x, e1, q1, q2, q3, rfl, _⟩ := ha s e he a s1 h1
  obtain ⟨y, e2, p1, p2, p3, rfl, _⟩ := hb s1 e1 q2 b _ h2
  refine ⟨e2, ?_, p2⟩
  simp only [mBin_ap, rs2_ap]
  rw [q1]; simp only [Option.bind_some]
  rw [p1]; simp only [Option.bind_some]
  rw [q3 _ e2 p2, p3 _ e2 p2]; simp only [Option.bind_some]
  rw [op a b v h3]; simp only [Option.bind_some]
  exact keepI_ok hi
theorem xs_un {g : PyData → Option PyData} {ma : M Opd} {ta : Src → Option (α × Src)} {f : α → Option γ} (op : Op1T g ea ec f) (ha : XSO si ea o1 ma L ta) (hi : OkI o1 ec) : XS ec (mUn g ma) L (thn2 ta fun a => lif (f a)) := fun s e he v s' hv => by
  obtain ⟨a, s1, h1, hv⟩ := thn2_some hv
  obtain ⟨h3, rfl⟩ := lif_some hv
  obtain ⟨x, e1, q1, q2, q3, rfl, _⟩ := ha s e he a _ h1
  refine ⟨e1, ?_, q2⟩
  simp only [mUn_ap, rs1_ap]
  rw [q1]; simp only [Option.bind_some]
  rw [q3 _ e1 q2]; simp only [Option.bind_some]
  rw [op a v h3]; simp only [Option.bind_some]
  exact keepI_ok hi
theorem xsa_nil : XSA si false mA0 L (fun s => some ((), s)) f0 := fun s e he v s' hv => by cases hv; exact ⟨[], e, rfl, he, fun _ _ _ => rfl, rfl, rfl⟩
theorem xsa_cons {m : M Opd} {r : M (List Opd)} {t : Src → Option (α × Src)} {t' : Src → Option (β × Src)} {fs : β → List PyData} (h : XSO si ea o1 m L t) (hr : XSA si o2 r L t' fs) : XSA si (o1 || o2) (mA m r) L (thn2 t fun a => thn2 t' fun b s => some ((a, b), s)) (fC ea fs) := fun s e he v s' hv => by
  obtain ⟨a, s1, h1, hv⟩ := thn2_some hv
  obtain ⟨b, s2, h2, hv⟩ := thn2_some hv
  cases hv
  obtain ⟨x, e1, q1, q2, q3, q4, q5⟩ := h s e he a s1 h1
  obtain ⟨os, e2, p1, p2, p3, p4, p5⟩ := hr s1 e1 q2 b _ h2
  refine ⟨x :: os, e2, by rw [mA_ap, q1]; simp only [Option.bind_some]; rw [p1]; rfl, p2, fun s3 e3 h3 => ?_, ?_, ?_⟩
  · rw [getAll_cons, q3 s3 e3 h3, p3 s3 e3 h3]; rfl
  · rw [List.any_cons, q4, p4]
  · cases x with
    | val d => exact p5
    | slot j =>
      show (j != si && noSlot si os) = true
      rw [p5, Bool.and_true]
      have : j ≠ si := fun z => q5 (by rw [z])
      simpa using this
theorem xs_callB {g : List PyData → Option PyData} {m : M (List Opd)} {t : Src → Option (α × Src)} {fs : α → List PyData} {f : α → Option γ} (op : ∀ p v, f p = some v → g (fs p) = some (ec v)) (h : XSA si own m L t fs) (hi : OkI own ec) : XS ec (mCallB g m) L (thn2 t fun a => lif (f a)) := fun s e he v s' hv => by
  obtain ⟨a, s1, h1, hv⟩ := thn2_some hv
  obtain ⟨h3, rfl⟩ := lif_some hv
  obtain ⟨os, e1, q1, q2, q3, rfl, _⟩ := h s e he a _ h1
  refine ⟨e1, ?_, q2⟩
  simp only [mCallB_ap, rsN_ap]
  rw [q1]; simp only [Option.bind_some]
  rw [q3 _ e1 q2]; simp only [Option.bind_some]
  rw [op a v h3]; simp only [Option.bind_some]
  exact keepI_ok hi
theorem xs_call {rk : Kd} {n : Nat} {mf : List PyData → Option (PyData × List PyData)} {m : M (List Opd)} {t : Src → Option (α × Src)} {fs : α → List PyData} {f : α → Option γ} (F : FT mf n fs ec f) (h : XSA si own m L t fs) (hi : OkK own rk ec) : XS ec (mCall rk n mf m) L (thn2 t fun a => lif (f a)) := fun s e he v s' hv => by
  obtain ⟨a, s1, h1, hv⟩ := thn2_some hv
  obtain ⟨h3, rfl⟩ := lif_some hv
  obtain ⟨os, e1, q1, q2, q3, q4, _⟩ := h s e he a _ h1
  obtain ⟨hn, outs, hf⟩ := F a v h3
  refine ⟨e1, ?_, q2⟩
  rw [mCall_ap, q1]; simp only [Option.bind_some]
  rw [rsK_ap, q3 _ e1 q2]; simp only [Option.bind_some]
  rw [if_pos hn, hf]; simp only [Option.map_some, Option.bind_some]
  rw [q4]
  rcases hi with rfl | hi
  · rfl
  · rw [hi v]; simp
/-- a def that draws on the source -/
def FTS {α γ : Type} (mf : List PyData → Option (PyData × List PyData)) (n : Nat) (fs : α → List PyData) (ec : γ → PyData) (f : α → Src → Option (γ × Src)) : Prop := ∀ s p v s', f p s = some (v, s') → (fs p).length = n ∧ ∃ outs, mf (eX s :: fs p) = some (ec v, eX s' :: outs)
theorem xs_callS {rk : Kd} {n : Nat} {mf : List PyData → Option (PyData × List PyData)} {m : M (List Opd)} {t : Src → Option (α × Src)} {fs : α → List PyData} {f : α → Src → Option (γ × Src)} (F : FTS mf n fs ec f) (hL : ∀ s, (L s)[si]? = some (some (some (eX s)))) (hset : ∀ s s', (L s).set si (some (some (eX s'))) = L s')
    (h : XSA si own m L t fs) (hi : OkK own rk ec) : XS ec (mCallS rk .src mf si n m) L (thn2 t f) := fun s e he v s' hv => by
  obtain ⟨a, s1, h1, h3⟩ := thn2_some hv
  obtain ⟨os, e1, q1, q2, q3, q4, q5⟩ := h s e he a _ h1
  obtain ⟨hn, outs, hf⟩ := F s1 a v s' h3
  refine ⟨e1.set si (some (eX s')), ?_, by rw [← hset s1 s']; exact q2.set si _⟩
  rw [mCallS_ap, he.at_ si _ (hL s)]
  simp only [Option.join_some, Option.bind_some]
  rw [q1]; simp only [Option.bind_some]
  rw [q2.at_ si _ (hL s1)]
  simp only [Option.join_some, Option.bind_some]
  rw [q3 _ e1 q2]; simp only [Option.bind_some]
  rw [if_pos ⟨hn, q5⟩, hf]
  show (if os.any Opd.own && !(immK rk (ec v) && decide (Kd.src = Kd.src)) then none else some (ec v, e1.set si (some (eX s')))) = _
  rw [q4]
  rcases hi with rfl | hi
  · rfl
  · simp [hi v]
theorem xs_tup {m : M (List Opd)} {t : Src → Option (α × Src)} {fs : α → List PyData} (h : XSA si false m L t fs) (hl : ∀ p, (fs p).length ≤ 1000) : XS (eTu fs) (mTup m) L t := fun s e he v s' hv => by
  obtain ⟨os, e1, q1, q2, q3, q4, _⟩ := h s e he v s' hv
  refine ⟨e1, ?_, q2⟩
  rw [mTup_ap, q1]; simp only [Option.bind_some]
  rw [allVal_of (q3 _ e1 q2) q4]; simp only [Option.bind_some]
  rw [if_pos (hl v)]
theorem xs_lst {m : M (List Opd)} {t : Src → Option (α × Src)} {fs : α → List PyData} (h : XSA si false m L t fs) (hl : ∀ p, (fs p).length ≤ 1000) : XS (fun p => .list (fs p)) (mLst m) L t := fun s e he v s' hv => by
  obtain ⟨os, e1, q1, q2, q3, q4, _⟩ := h s e he v s' hv
  refine ⟨e1, ?_, q2⟩
  rw [mLst_ap, q1]; simp only [Option.bind_some]
  rw [allVal_of (q3 _ e1 q2) q4]; simp only [Option.bind_some]
  rw [if_pos (hl v)]
theorem xsb_test {m : M PyData} {t : Src → Option (Bool × Src)} (h : XS eB m L t) : XSB (mTest m) L t := fun s e he v s' hv => by
  obtain ⟨e1, q1, q2⟩ := h s e he v s' hv
  exact ⟨e1, by rw [mTest_ap, q1]; rfl, q2⟩
theorem xsb_not {m : M Bool} {t : Src → Option (Bool × Src)} (h : XSB m L t) : XSB (mNot m) L (thn2 t fun b s => some (!b, s)) := fun s e he v s' hv => by
  obtain ⟨x, s1, h1, h2⟩ := thn2_some hv
  cases h2
  obtain ⟨e1, q1, q2⟩ := h s e he x _ h1
  exact ⟨e1, by rw [mNot_ap, q1]; rfl, q2⟩
theorem xsb_and {m n : M Bool} {t t' : Src → Option (Bool × Src)} (h : XSB m L t) (h' : XSB n L t') : XSB (mAnd m n) L (thn2 t fun a s => if a = true then t' s else some (false, s)) := fun s e he v s' hv => by
  obtain ⟨x, s1, h1, hv⟩ := thn2_some hv
  obtain ⟨e1, q1, q2⟩ := h s e he x _ h1
  cases x with
  | false => cases hv; exact ⟨e1, by rw [mAnd_ap, q1]; rfl, q2⟩
  | true =>
    obtain ⟨e2, p1, p2⟩ := h' _ e1 q2 v _ hv
    exact ⟨e2, by rw [mAnd_ap, q1]; exact p1, p2⟩
theorem xsb_or {m n : M Bool} {t t' : Src → Option (Bool × Src)} (h : XSB m L t) (h' : XSB n L t') : XSB (mOr m n) L (thn2 t fun a s => if a = true then some (true, s) else t' s) := fun s e he v s' hv => by
  obtain ⟨x, s1, h1, hv⟩ := thn2_some hv
  obtain ⟨e1, q1, q2⟩ := h s e he x _ h1
  cases x with
  | true => cases hv; exact ⟨e1, by rw [mOr_ap, q1]; rfl, q2⟩
  | false =>
    obtain ⟨e2, p1, p2⟩ := h' _ e1 q2 v _ hv
    exact ⟨e2, by rw [mOr_ap, q1]; exact p1, p2⟩
theorem XS_of_XSB {m : M PyData} {t : Src → Option (Bool × Src)} (h : XSB (mTest m) L t) : XS eB m L t := fun s e he v s' hv => by
  obtain ⟨e1, q1, q2⟩ := h s e he v s' hv
  exact ⟨e1, mTest_bool q1, q2⟩
theorem xs_and {m n : M PyData} {t t' : Src → Option (Bool × Src)} (h : XS eB m L t) (h' : XS eB n L t') : XS eB (mAndV m n) L (thn2 t fun a s => if a = true then t' s else some (false, s)) := XS_of_XSB (by rw [mTest_and]; exact xsb_and (xsb_test h) (xsb_test h'))
theorem xs_or {m n : M PyData} {t t' : Src → Option (Bool × Src)} (h : XS eB m L t) (h' : XS eB n L t') : XS eB (mOrV m n) L (thn2 t fun a s => if a = true then some (true, s) else t' s) := XS_of_XSB (by rw [mTest_or]; exact xsb_or (xsb_test h) (xsb_test h'))
theorem xs_not {m : M PyData} {t : Src → Option (Bool × Src)} (h : XS eB m L t) : XS eB (mNotV m) L (thn2 t fun b s => some (!b, s)) := XS_of_XSB (by rw [mTest_not]; exact xsb_not (xsb_test h))
theorem xs_if {c : M Bool} {m n : M PyData} {tc : Src → Option (Bool × Src)} {t t' : Src → Option (α × Src)} (hc : XSB c L tc) (h : XS ea m L t) (h' : XS ea n L t') : XS ea (mIf c m n) L (thn2 tc fun b s => if b = true then t s else t' s) := fun s e he v s' hv => by
  obtain ⟨x, s1, h1, hv⟩ := thn2_some hv
  obtain ⟨e1, q1, q2⟩ := hc s e he x _ h1
  rw [mIf_ap, q1]
  cases x with
  | true => exact h _ e1 q2 v _ hv
  | false => exact h' _ e1 q2 v _ hv
theorem xs_cat {ma mb : M Opd} {ta tb : Src → Option (List α × Src)} (ha : XSO si (eL ea) o1 ma L ta) (hb : XSO si (eL ea) o2 mb L tb) : XS (eL ea) (mCat ma mb) L (thn2 ta fun a => thn2 tb fun b => lif (catT a b)) := fun s e he v s' hv => by
  obtain ⟨a, s1, h1, hv⟩ := thn2_some hv
  obtain ⟨b, s2, h2, hv⟩ := thn2_some hv
  obtain ⟨h3, rfl⟩ := lif_some hv
  obtain ⟨x, e1, q1, q2, q3, _⟩ := ha s e he a s1 h1
  obtain ⟨y, e2, p1, p2, p3, _⟩ := hb s1 e1 q2 b _ h2
  unfold catT at h3
  split at h3
  · rename_i hl
    cases h3
    refine ⟨e2, ?_, p2⟩
    unfold mCat
    simp only [bnd_ap]
    rw [q1]; simp only [Option.bind_some]
    rw [p1]; simp only [Option.bind_some]
    rw [q3 _ e2 p2, p3 _ e2 p2]
    dsimp only
    rw [List.length_map, List.length_map, if_pos hl, ← List.map_append]
  · cases h3
theorem xsi_list {m : M PyData} {t : Src → Option (List α × Src)} (h : XS (eL ea) m L t) : XSI ea (mIt m) L t := fun s e he v s' hv => by
  obtain ⟨e1, q1, q2⟩ := h s e he v s' hv
  exact ⟨e1, by rw [mIt_ap, q1]; rfl, q2⟩
theorem xsi_tup {m : M PyData} {t : Src → Option (List α × Src)} (h : XS (eT ea) m L t) : XSI ea (mIt m) L t := fun s e he v s' hv => by
  obtain ⟨e1, q1, q2⟩ := h s e he v s' hv
  exact ⟨e1, by rw [mIt_ap, q1]; rfl, q2⟩
theorem xsi_rng1 {m : M (List Opd)} {t : Src → Option ((Int × Unit) × Src)} (h : XSA si false m L t (fC eI f0)) : XSI eI (mRng rg1 m) L (thn2 t fun p => lif (rng1T p.1)) := fun s e he v s' hv => by
  obtain ⟨p, s1, hp, hv⟩ := thn2_some hv
  obtain ⟨hv, rfl⟩ := lif_some hv
  obtain ⟨os, e1, q1, q2, q3, q4, _⟩ := h s e he p _ hp
  refine ⟨e1, ?_, q2⟩
  rw [mRng_ap, q1]; simp only [Option.bind_some]
  rw [allVal_of (q3 _ e1 q2) q4]; simp only [Option.bind_some]
  unfold rng1T at hv
  split at hv
  · rename_i hr; cases hv
    show (if rng62 p.1 = true then some (rngL 0 p.1.toNat) else none).map _ = _
    rw [if_pos hr, rngL_T]
    unfold rngT
    simp
  · cases hv
theorem xsi_rng2 {m : M (List Opd)} {t : Src → Option ((Int × Int × Unit) × Src)} (h : XSA si false m L t (fC eI (fC eI f0))) : XSI eI (mRng rg2 m) L (thn2 t fun p => lif (rng2T p.1 p.2.1)) := fun s e he v s' hv => by
  obtain ⟨p, s1, hp, hv⟩ := thn2_some hv
  obtain ⟨hv, rfl⟩ := lif_some hv
  obtain ⟨os, e1, q1, q2, q3, q4, _⟩ := h s e he p _ hp
  refine ⟨e1, ?_, q2⟩
  rw [mRng_ap, q1]; simp only [Option.bind_some]
  rw [allVal_of (q3 _ e1 q2) q4]; simp only [Option.bind_some]
  unfold rng2T at hv
  split at hv
  · rename_i hr; cases hv
    show (if (rng62 p.1 && rng62 p.2.1) = true then some (rngL p.1 (p.2.1 - p.1).toNat) else none).map _ = _
    rw [if_pos (by rw [hr.1, hr.2]; rfl), rngL_T]
    rfl
  · cases hv
/-! comprehensions that drw -/
def compS {α β : Type} (p : α → Src → Option (Bool × Src)) (f : α → Src → Option (β × Src)) : List α → Src → Option (List β × Src)
  | [], s => some ([], s)
  | x :: r, s => (p x s).bind fun b => if b.1 = true then (f x b.2).bind fun y => (compS p f r y.2).map fun z => (y.1 :: z.1, z.2) else compS p f r b.2
def compGS {α β : Type} (p : α → Src → Option (Bool × Src)) (f : α → Src → Option (β × Src)) (xs : List α) (s : Src) : Option (List β × Src) := if xs.length ≤ 1000000 then compS p f xs s else none
theorem compL_S {g : St1} {t : M Bool} {m : M PyData} {vs : List Nat} {p : α → Src → Option (Bool × Src)} {f : α → Src → Option (β × Src)} {L1 : α → Src → SL} (hg : ∀ x s, XG g (ea x) (wipeL (L s) vs) (L1 x s)) (ht : ∀ x, XSB t (L1 x) (p x)) (hm : ∀ x, XS eb m (L1 x) (f x))
    (hw : ∀ x s, LEs (wipeL (L s) vs) (wipeL (L1 x s) vs)) : ∀ {xs : List α} {e : Ev} {ys : List β} {s s' : Src}, Mt e (wipeL (L s) vs) → compS p f xs s = some (ys, s') → ∃ e', compL g t m vs (xs.map ea) e = some (ys.map eb, e') ∧ Mt e' (wipeL (L s') vs)
  | [], e, ys, s, s', he, h => by cases h; exact ⟨e, rfl, he⟩
  | x :: r, e, ys, s, s', he, h => by
    unfold compS at h
    obtain ⟨⟨b, s1⟩, hb, h⟩ := Option.bind_eq_some_iff.mp h
    obtain ⟨e1, q1, q2⟩ := hg x s e he
    obtain ⟨e2, p1, p2⟩ := ht x s e1 q2 b s1 hb
    rw [List.map_cons]
    unfold compL
    rw [q1]; dsimp only
    rw [p1]
    cases b with
    | false =>
      dsimp only
      exact compL_S hg ht hm hw ((p2.wipe vs).weak (hw x s1)) h
    | true =>
      dsimp only
      rw [if_pos rfl] at h
      obtain ⟨⟨y, s2⟩, hy, h⟩ := Option.bind_eq_some_iff.mp h
      obtain ⟨⟨ys', s3⟩, hys, h⟩ := Option.map_eq_some_iff.mp h
      cases h
      obtain ⟨e3, r1, r2⟩ := hm x s1 e2 p2 y s2 hy
      rw [r1]; dsimp only
      obtain ⟨e4, t1, t2⟩ := compL_S hg ht hm hw ((r2.wipe vs).weak (hw x s2)) hys
      rw [t1]
      exact ⟨e4, rfl, t2⟩
theorem xs_comp {it : M (List PyData)} {g : St1} {t : M Bool} {m : M PyData} {vs : List Nat} {ti : Src → Option (List α × Src)} {p : α → Src → Option (Bool × Src)} {f : α → Src → Option (β × Src)} {L1 : α → Src → SL} (hi : XSI ea it L ti) (hg : ∀ x s, XG g (ea x) (wipeL (L s) vs) (L1 x s)) (hw : ∀ x s, LEs (wipeL (L s) vs) (wipeL (L1 x s) vs))
    (hlen : ∀ s s', (L s).length = (L s').length) (hvs : ∀ i ∈ vs, ∀ s s' x, (L s)[i]? = some (some x) → (L s')[i]? = some (some x)) (ht : ∀ x, XSB t (L1 x) (p x)) (hm : ∀ x, XS eb m (L1 x) (f x)) : XS (eL eb) (mComp it g t m vs) L (thn2 ti fun xs => compGS p f xs) := fun s e he v s' hv => by
  obtain ⟨xs, s1, hx, hv⟩ := thn2_some hv
  obtain ⟨e1, q1, q2⟩ := hi s e he xs s1 hx
  unfold compGS at hv
  split at hv
  · rename_i hl
    obtain ⟨e2, p1, p2⟩ := compL_S hg ht hm hw (q2.wipe vs) hv
    refine ⟨_, ?_, q2.back (L2 := L s') p2 (hlen _ _) fun i hi x hx => hvs i hi _ _ x hx⟩
    unfold mComp
    rw [q1]; dsimp only
    rw [if_pos (by rw [List.length_map]; exact hl), p1]
  · cases hv
/-! several at once -/
theorem xsm_nil : XSM mF0 L (fun s => some ((), s)) f0 := fun s e he v s' hv => by cases hv; exact ⟨e, rfl, he⟩
theorem xsm_cons {m : M PyData} {r : M (List PyData)} {t : Src → Option (α × Src)} {t' : Src → Option (β × Src)} {fs : β → List PyData} (h : XS ea m L t) (hr : XSM r L t' fs) : XSM (mF m r) L (thn2 t fun a => thn2 t' fun b s => some ((a, b), s)) (fC ea fs) := fun s e he v s' hv => by
  obtain ⟨a, s1, h1, hv⟩ := thn2_some hv
  obtain ⟨b, s2, h2, hv⟩ := thn2_some hv
  cases hv
  obtain ⟨e1, q1, q2⟩ := h s e he a s1 h1
  obtain ⟨e2, p1, p2⟩ := hr s1 e1 q2 b _ h2
  exact ⟨e2, by rw [mF_ap, q1]; simp only [Option.bind_some]; rw [p1]; rfl, p2⟩
end
/-! ### statements that drw -/
def drw {α β : Type} (x : Option (α × Src)) (f : α → Src → Option β) : Option β := x.bind fun p => f p.1 p.2
@[simp] theorem drw_some {α β : Type} {p : α × Src} {f : α → Src → Option β} : drw (some p) f = f p.1 p.2 := rfl
section
variable {α β ρ σ τ : Type} {ea : α → PyData} {eb : β → PyData} {L : Src → SL} {R : τ → Out → Prop} {s : Src}
theorem xs_asg {m : M PyData} {g : St1} {r : B} {t : Src → Option (α × Src)} {T : α → Src → Option τ} {L1 : α → Src → SL} (h : XS ea m L t) (hg : ∀ v s', XG g (ea v) (L s') (L1 v s')) (hr : ∀ v s', XB r (L1 v s') (T v s') R) : XB (sSeq (sAsg m g) r) (L s) (drw (t s) T) R := fun e he v hv => by
  obtain ⟨⟨x, s1⟩, hx, hv⟩ := Option.bind_eq_some_iff.mp hv
  obtain ⟨e1, q1, q2⟩ := h s e he x s1 hx
  obtain ⟨e2, p1, p2⟩ := hg x s1 e1 q2
  obtain ⟨o, r1, r2⟩ := hr x s1 e2 p2 v hv
  refine ⟨o, ?_, r2⟩
  rw [sSeq_ap, sAsg_ap, q1]; simp only [Option.bind_some]
  rw [p1]; exact r1
theorem xs_par {is : List Nat} {m : M (List PyData)} {r : B} {t : Src → Option (α × Src)} {T : α → Src → Option τ} {fs : α → List PyData} (h : XSM m L t fs) (hr : ∀ v s', XB r (stoL is (fs v) (L s')) (T v s') R) : XB (sSeq (sParK is m) r) (L s) (drw (t s) T) R := fun e he v hv => by
  obtain ⟨⟨x, s1⟩, hx, hv⟩ := Option.bind_eq_some_iff.mp hv
  obtain ⟨e1, q1, q2⟩ := h s e he x s1 hx
  obtain ⟨o, r1, r2⟩ := hr x s1 _ (Mt.sto q2) v hv
  refine ⟨o, ?_, r2⟩
  rw [sSeq_ap, sParK_ap, q1]; exact r1
theorem xs_parG {g : List PyData → Ev → Option Ev} {m : M (List PyData)} {r : B} {t : Src → Option (α × Src)} {T : α → Src → Option τ} {fs : α → List PyData} {L1 : α → Src → SL} (h : XSM m L t fs) (hg : ∀ v s', XGs g (fs v) (L s') (L1 v s')) (hr : ∀ v s', XB r (L1 v s') (T v s') R) : XB (sSeq (sParG m g) r) (L s) (drw (t s) T) R := fun e he v hv => by
  obtain ⟨⟨x, s1⟩, hx, hv⟩ := Option.bind_eq_some_iff.mp hv
  obtain ⟨e1, q1, q2⟩ := h s e he x s1 hx
  obtain ⟨e2, p1, p2⟩ := hg x s1 e1 q2
  obtain ⟨o, r1, r2⟩ := hr x s1 e2 p2 v hv
  refine ⟨o, ?_, r2⟩
  rw [sSeq_ap, sParG_ap, q1]; simp only [Option.bind_some]
  rw [p1]; exact r1
theorem xs_app {i : Nat} {m : M PyData} {r : B} {l : List α} {t : Src → Option (α × Src)} {T : List α → Src → Option τ} (hi : ∀ s, (L s)[i]? = some (some (some (eL ea l)))) (h : XS ea m L t) (hr : ∀ v s', XB r ((L s').set i (some (some (eL ea v)))) (T v s') R) :
    XB (sSeq (sExpr (mApp i m)) r) (L s) (drw (t s) fun x s' => (appT l x).bind fun v => T v s') R := fun e he v hv => by
  obtain ⟨⟨x, s1⟩, hx, hv⟩ := Option.bind_eq_some_iff.mp hv
  obtain ⟨y, hy, hv⟩ := Option.bind_eq_some_iff.mp hv
  unfold appT at hy
  split at hy
  · rename_i hl
    cases hy
    obtain ⟨e1, q1, q2⟩ := h s e he x s1 hx
    obtain ⟨o, r1, r2⟩ := hr _ s1 _ (q2.set i _) v hv
    refine ⟨o, ?_, r2⟩
    have h1 := he.at_ i _ (hi s)
    have h2 := q2.at_ i _ (hi s1)
    rw [sSeq_ap, sExpr_ap, mApp_ap, lstAt_ap, h1]
    simp only [Option.join_some, Option.bind_some, asL_list]
    rw [q1]; simp only [Option.bind_some]
    rw [lstAt_ap, h2]
    simp only [Option.join_some, Option.bind_some, asL_list]
    rw [if_pos (by rw [List.length_map]; exact hl)]
    have e3 : List.map ea l ++ [ea x] = List.map ea (l ++ [x]) := by rw [List.map_append]; rfl
    rw [e3]; exact r1
  · cases hy
theorem xs_aug {γ : Type} {ec : γ → PyData} {i : Nat} {g : PyData → PyData → Option PyData} {m : M PyData} {r : B} {a : α} {t : Src → Option (β × Src)} {f : α → β → Option γ} {T : γ → Src → Option τ} (op : Op2T g ea eb ec f) (hi : ∀ s, (L s)[i]? = some (some (some (ea a)))) (h : XS eb m L t) (hr : ∀ v s', XB r ((L s').set i (some (some (ec v)))) (T v s') R) :
    XB (sSeq (sAug i g m) r) (L s) (drw (t s) fun x s' => (f a x).bind fun v => T v s') R := fun e he v hv => by
  obtain ⟨⟨b, s1⟩, hx, hv⟩ := Option.bind_eq_some_iff.mp hv
  obtain ⟨x, hb, hv⟩ := Option.bind_eq_some_iff.mp hv
  obtain ⟨e1, q1, q2⟩ := h s e he b s1 hx
  obtain ⟨o, r1, r2⟩ := hr x s1 _ (q2.set i _) v hv
  refine ⟨o, ?_, r2⟩
  rw [sSeq_ap, sAug_ap, he.at_ i _ (hi s)]
  simp only [Option.join_some, Option.bind_some]
  rw [q1]; simp only [Option.bind_some]
  rw [op a b x hb]; exact r1
/-- a return of what is drawn -/
theorem xs_ret {m : M PyData} {t : Src → Option (α × Src)} {k : α → Src → τ} (hk : ∀ v s' e, Mt e (L s') → R (k v s') (.rt (ea v) e)) (h : XS ea m L t) : XB (sRet m) (L s) (drw (t s) fun v s' => some (k v s')) R := fun e he v hv => by
  obtain ⟨⟨x, s1⟩, hx, hv⟩ := Option.bind_eq_some_iff.mp hv
  cases hv
  obtain ⟨e1, q1, q2⟩ := h s e he x s1 hx
  exact ⟨_, by rw [sRet_ap, q1]; rfl, hk x s1 e1 q2⟩
theorem xs_retS {m : M PyData} {r : B} {t : Src → Option (α × Src)} {k : α → Src → τ} (hk : ∀ v s' e, Mt e (L s') → R (k v s') (.rt (ea v) e)) (h : XS ea m L t) : XB (sSeq (sRet m) r) (L s) (drw (t s) fun v s' => some (k v s')) R := fun e he v hv => by
  obtain ⟨⟨x, s1⟩, hx, hv⟩ := Option.bind_eq_some_iff.mp hv
  cases hv
  obtain ⟨e1, q1, q2⟩ := h s e he x s1 hx
  exact ⟨_, by rw [sSeq_ap, sRet_ap, q1]; rfl, hk x s1 e1 q2⟩
/-- a return that draws nothing, the source as it is -/
theorem xb_retX {m : M PyData} {L : SL} {t : Option α} {k : α → τ} (hk : ∀ v e, Mt e L → R (k v) (.rt (ea v) e)) (h : XP ea m L t) : XB (sRet m) L (t.map k) R := fun e he v hv => by
  obtain ⟨x, hx, rfl⟩ := Option.map_eq_some_iff.mp hv
  obtain ⟨e1, q1, q2⟩ := h e he x hx
  exact ⟨_, by rw [sRet_ap, q1]; rfl, hk x e1 q2⟩
theorem xb_retXS {m : M PyData} {L : SL} {r : B} {t : Option α} {k : α → τ} (hk : ∀ v e, Mt e L → R (k v) (.rt (ea v) e)) (h : XP ea m L t) : XB (sSeq (sRet m) r) L (t.map k) R := fun e he v hv => by
  obtain ⟨x, hx, rfl⟩ := Option.map_eq_some_iff.mp hv
  obtain ⟨e1, q1, q2⟩ := h e he x hx
  exact ⟨_, by rw [sSeq_ap, sRet_ap, q1]; rfl, hk x e1 q2⟩
/-- .. of a list of one's own -/
theorem xb_retT {i : Nat} {L : SL} {a : α} {k : τ} (hi : L[i]? = some (some (some (ea a)))) (hk : ∀ e, Mt e (L.set i (some none)) → R k (.rt (ea a) e)) : XB (sRet (mTake i)) L (some k) R := fun e he v hv => by
  cases hv
  exact ⟨_, by rw [sRet_ap, mTake_ap, he.at_ i _ hi]; rfl, hk _ (he.set i none)⟩
theorem rvs_ok {n : Nat} {L : SL} {v : α} {s' : Src} {e : Ev} (he : Mt e L) (hl : L.length = n) (h0 : L[0]? = some (some (some (eX s')))) : RVS n ea (v, s') (.rt (ea v) e) := ⟨e, rfl, he.len.trans hl, he.at_ 0 _ h0⟩
/-- if on what is drawn -/
theorem xs_ifB {c : M Bool} {m n : B} {tc : Src → Option (Bool × Src)} {t t' : Src → Option τ} (hc : XSB c L tc) (h : ∀ s', XB m (L s') (t s') R) (h' : ∀ s', XB n (L s') (t' s') R) : XB (sIf c m n) (L s) (drw (tc s) fun b s' => if b = true then t s' else t' s') R := fun e he v hv => by
  obtain ⟨⟨x, s1⟩, hx, hv⟩ := Option.bind_eq_some_iff.mp hv
  obtain ⟨e1, q1, q2⟩ := hc s e he x s1 hx
  rw [sIf_ap, q1]
  cases x with
  | true => exact h s1 e1 q2 v hv
  | false => exact h' s1 e1 q2 v hv
theorem xs_ifG {c : M Bool} {m r : B} {tc : Src → Option (Bool × Src)} {t t' : Src → Option τ} (hc : XSB c L tc) (hm : Gone m) (h : ∀ s', XB m (L s') (t s') R) (h' : ∀ s', XB r (L s') (t' s') R) : XB (sSeq (sIf c m sNx) r) (L s) (drw (tc s) fun b s' => if b = true then t s' else t' s') R := fun e he v hv => by
  obtain ⟨⟨x, s1⟩, hx, hv⟩ := Option.bind_eq_some_iff.mp hv
  obtain ⟨e1, q1, q2⟩ := hc s e he x s1 hx
  rw [sSeq_ap, sIf_ap, q1]
  cases x with
  | true =>
    obtain ⟨o, r1, r2⟩ := h s1 e1 q2 v hv
    refine ⟨o, ?_, r2⟩
    dsimp only [Option.bind_some]
    rw [if_pos rfl, r1]
    cases o with
    | nx e' => exact absurd rfl (hm e1 _ r1 e')
    | _ => rfl
  | false => exact h' s1 e1 q2 v hv
theorem xs_ifG2 {c : M Bool} {m n r : B} {tc : Src → Option (Bool × Src)} {t t' : Src → Option τ} (hc : XSB c L tc) (hm : Gone m) (h : ∀ s', XB m (L s') (t s') R) (h' : ∀ s', XB (sSeq n r) (L s') (t' s') R) : XB (sSeq (sIf c m n) r) (L s) (drw (tc s) fun b s' => if b = true then t s' else t' s') R := fun e he v hv => by
  obtain ⟨⟨x, s1⟩, hx, hv⟩ := Option.bind_eq_some_iff.mp hv
  obtain ⟨e1, q1, q2⟩ := hc s e he x s1 hx
  rw [sSeq_ap, sIf_ap, q1]
  cases x with
  | true =>
    obtain ⟨o, r1, r2⟩ := h s1 e1 q2 v hv
    refine ⟨o, ?_, r2⟩
    dsimp only [Option.bind_some]
    rw [if_pos rfl, r1]
    cases o with
    | nx e' => exact absurd rfl (hm e1 _ r1 e')
    | _ => rfl
  | false => exact h' s1 e1 q2 v hv
theorem xs_for {it : M (List PyData)} {g : St1} {body : B} {ti : Src → Option (List α × Src)} {f : σ → α → Option σ} {env : σ → SL} {L1 : σ → α → SL} {s0 : Src → σ} (hi : XSI ea it L ti) (w : ∀ s', LEs (env (s0 s')) (L s')) (hg : ∀ s x, XG g (ea x) (env s) (L1 s x)) (hb : ∀ s x, XB body (L1 s x) (f s x) (RN env)) :
    XB (sFor it g body) (L s) (drw (ti s) fun xs s' => forP f xs (s0 s')) (RN env) := fun e he v hv => by
  obtain ⟨⟨xs, s1⟩, hx, hv⟩ := Option.bind_eq_some_iff.mp hv
  obtain ⟨e1, q1, q2⟩ := hi s e he xs s1 hx
  obtain ⟨e2, p1, p2⟩ := loopB_P hg hb (q2.weak (w s1)) hv
  exact ⟨_, by rw [sFor_ap, q1]; exact p1, e2, rfl, p2⟩
theorem xs_forC {it : M (List PyData)} {g : St1} {body : B} {ti : Src → Option (List α × Src)} {f : σ → α → Option (Ctl ρ σ)} {env : σ → SL} {L1 : σ → α → SL} {s0 : Src → σ} {Rr : ρ → Out → Prop} (hrt : ∀ v o, Rr v o → ∃ d e, o = .rt d e) (hi : XSI ea it L ti) (w : ∀ s', LEs (env (s0 s')) (L s')) (hg : ∀ s x, XG g (ea x) (env s) (L1 s x)) (hb : ∀ s x, XB body (L1 s x) (f s x) (RC Rr env)) :
    XB (sFor it g body) (L s) (drw (ti s) fun xs s' => forC f xs (s0 s')) (RC Rr env) := fun e he v hv => by
  obtain ⟨⟨xs, s1⟩, hx, hv⟩ := Option.bind_eq_some_iff.mp hv
  obtain ⟨e1, q1, q2⟩ := hi s e he xs s1 hx
  obtain ⟨o, p1, p2⟩ := loopB_C hrt hg hb (q2.weak (w s1)) hv
  exact ⟨o, by rw [sFor_ap, q1]; exact p1, p2⟩
/-- a def that draws, by its body -/
theorem fts_of {rk : Kd} {pk : List Kd} {n k : Nat} {mb : B} {fs : α → List PyData} {f : α → Src → Option (β × Src)} (hp : (pk.all fun k => decide (k = .frz)) = true) (hl : ∀ p, (fs p).length = k) (hpk : pk.length = k) (hkn : k + 1 ≤ n)
    (h : ∀ s p, XB mb (some (some (eX s)) :: (fs p).map (fun d => some (some d)) ++ List.replicate (n - (k + 1)) (some none)) (f p s) (RVS n eb)) : FTS (mDef rk (.src :: pk) n mb) k fs eb f := fun s p v s' hv => by
  refine ⟨hl p, ?_⟩
  obtain ⟨o, q1, e1, rfl, q2, q3⟩ := h s p ((eX s :: fs p).map some ++ List.replicate (n - (eX s :: fs p).length) none) ⟨by simp [hl], fun i x hi => by
    have e1 : some (some (eX s)) :: (fs p).map (fun d => some (some d)) = (eX s :: fs p).map (fun d => some (some d)) := rfl
    rw [e1] at hi
    rw [List.getElem?_append] at hi ⊢
    rw [List.length_map] at hi ⊢
    split at hi
    · rename_i hlt
      rw [if_pos hlt]
      rw [List.getElem?_map] at hi ⊢
      obtain ⟨d, hd, hx⟩ := Option.map_eq_some_iff.mp hi
      rw [hd]; cases hx; rfl
    · rename_i hlt
      rw [if_neg hlt]
      rw [List.getElem?_replicate] at hi ⊢
      have : (eX s :: fs p).length = k + 1 := by simp [hl]
      rw [this] at hi ⊢
      split at hi
      · rename_i h2; rw [if_pos h2]; cases hi; rfl
      · cases hi⟩ (v, s') hv
  cases e1 with
  | nil => simp at q3
  | cons y e2 =>
    simp at q3
    subst q3
    obtain ⟨outs, ho⟩ := outsOf_frz (pk := pk) (ds := fs p) (e := e2) hp (by rw [hl, hpk]) (by rw [hl]; simp at q2; omega)
    refine ⟨outs, ?_⟩
    unfold mDef
    rw [q1]
    dsimp only
    unfold finB
    simp only [outsOf, ho]; rfl
/-! the drawing itself -/
def pickT (many : Int) (s : Src) : Option (Int × Src) := if many.natAbs < 1073741824 then some (pickR s many) else none
theorem pick_fts : FTS (α := Int × Unit) mmPick 1 (fC eI f0) eI fun p s => pickT p.1 s := fun s p v s' h => by
  unfold pickT at h
  dsimp only at h
  split at h
  · rename_i hm
    have h : pickR s p.1 = (v, s') := by simpa using h
    refine ⟨rfl, [.int p.1], ?_⟩
    have := pick_spec s p.1 hm
    rw [h] at this
    exact this
  · cases h
/-- a drawn member -/
def ofT {α : Type} (l : List α) (s : Src) : Option (α × Src) := drw (pickT l.length s) fun r s' => (atI l r).map fun v => (v, s')
def sourceT (ns : List Int) : Option Src := if ns.length ≤ 63 then some (srcS ns) else none
theorem source_ft : FT (α := List Int × Unit) mmSource 1 (fC (eL eI) f0) eX fun p => sourceT p.1 := fun p v h => by
  unfold sourceT at h
  dsimp only at h
  split at h
  · rename_i hl; cases h
    exact ⟨rfl, _, source_spec p.1 hl⟩
  · cases h
theorem pickT_ex (s : Src) (many : Int) (hm : many.natAbs < 1073741824) : ∃ r s', pickT many s = some (r, s') ∧ 0 ≤ r ∧ r < max 1 many := ⟨_, _, if_pos hm, pickR_lo s many, pickR_hi s many⟩
theorem of_fts {E : List α → PyData} (hE : ∀ l, E l = .list (l.map ea) ∨ E l = .tuple (l.map ea)) : FTS (α := List α × Unit) mmOf 1 (fC E f0) ea fun p s => ofT p.1 s := fun s p v s' h => by
  obtain ⟨l, _⟩ := p
  obtain ⟨⟨r, s1⟩, h1, h2⟩ := Option.bind_eq_some_iff.mp h
  obtain ⟨x, h3, h4⟩ := Option.map_eq_some_iff.mp h2
  cases h4
  refine ⟨rfl, [E l], ?_⟩
  obtain ⟨_, outs, q⟩ := pick_fts s ((l.length : Int), ()) r s1 h1
  have hm : mmPick [srcDt s, .int (l.length : Int)] = some (.int r, srcDt s1 :: outs) := q
  have hi : atI (l.map ea) r = some (ea v) := by rw [atI_map, h3]; rfl
  show mmOf [srcDt s, E l] = _
  rcases hE l with e | e <;> rw [e] <;> simp [mmOf, mDef, finB, outsOf, hm, hi]
theorem of_ftsL : FTS (α := List α × Unit) mmOf 1 (fC (eL ea) f0) ea fun p s => ofT p.1 s := of_fts fun l => .inl rfl
theorem of_ftsT : FTS (α := List α × Unit) mmOf 1 (fC (eT ea) f0) ea fun p s => ofT p.1 s := of_fts fun l => .inr rfl
theorem ofT_ex (s : Src) {l : List α} (h0 : l ≠ []) (h1 : l.length < 1073741824) : ∃ v s', ofT l s = some (v, s') ∧ v ∈ l := by
  obtain ⟨r, s', h, lo, hi⟩ := pickT_ex s (l.length : Int) (by omega)
  have : 0 < l.length := List.length_pos_iff.mpr h0
  have hr : r.toNat < l.length := by omega
  refine ⟨l[r.toNat], s', ?_, List.getElem_mem hr⟩
  unfold ofT drw
  rw [h, Option.bind_some]
  dsimp only
  have h2 : atI l ((r.toNat : Nat) : Int) = some l[r.toNat] := atI_nat (List.getElem?_eq_getElem hr)
  have : ((r.toNat : Nat) : Int) = r := by omega
  rw [this] at h2
  rw [h2]
  rfl
end
/-! starred displays -/
section
variable {α : Type} {ea : α → PyData} {L : SL}
def XL (ea : α → PyData) (m : M (List PyData)) (L : SL) (t : Option (List α)) : Prop := ∀ e, Mt e L → ∀ v, t = some v → ∃ e', m e = some (v.map ea, e') ∧ Mt e' L
theorem xl_cv {m : M (List PyData)} {t t' : Option (List α)} (h : XL ea m L t) (q : t = t') : XL ea m L t' := q ▸ h
theorem xl_nil : XL ea mS0 L (some []) := fun e he v hv => by cases hv; exact ⟨e, rfl, he⟩
theorem xl_c {m : M PyData} {r : M (List PyData)} {t : Option α} {t' : Option (List α)} (h : XP ea m L t) (hr : XL ea r L t') : XL ea (mSc m r) L (t.bind fun a => t'.map fun b => a :: b) := fun e he v hv => by
  obtain ⟨a, h1, hv⟩ := Option.bind_eq_some_iff.mp hv
  obtain ⟨b, h2, rfl⟩ := Option.map_eq_some_iff.mp hv
  obtain ⟨e1, q1, q2⟩ := h e he a h1
  obtain ⟨e2, p1, p2⟩ := hr e1 q2 b h2
  exact ⟨e2, by rw [mSc_ap, q1]; simp only [Option.bind_some]; rw [p1]; rfl, p2⟩
theorem xl_s {E : List α → PyData} (hE : ∀ l, itsOf (E l) = some (l.map ea)) {m : M PyData} {r : M (List PyData)} {t : Option (List α)} {t' : Option (List α)} (h : XP E m L t) (hr : XL ea r L t') : XL ea (mSs m r) L (t.bind fun a => t'.map fun b => a ++ b) := fun e he v hv => by
  obtain ⟨a, h1, hv⟩ := Option.bind_eq_some_iff.mp hv
  obtain ⟨b, h2, rfl⟩ := Option.map_eq_some_iff.mp hv
  obtain ⟨e1, q1, q2⟩ := h e he a h1
  obtain ⟨e2, p1, p2⟩ := hr e1 q2 b h2
  refine ⟨e2, ?_, p2⟩
  rw [mSs_ap, q1]; simp only [Option.bind_some]; rw [p1]; simp only [Option.bind_some]
  rw [hE, Option.map_some, List.map_append]
def fewT {α : Type} (l : List α) : Option (List α) := if l.length ≤ 1000000 then some l else none
theorem fewT_ok {α : Type} {l : List α} (h : l.length ≤ 1000000) : fewT l = some l := if_pos h
theorem x_tupS {m : M (List PyData)} {t : Option (List α)} (h : XL ea m L t) : XP (eT ea) (mTupS m) L (t.bind fewT) := fun e he v hv => by
  obtain ⟨a, h1, hv⟩ := Option.bind_eq_some_iff.mp hv
  unfold fewT at hv
  split at hv
  · rename_i hl; cases hv
    obtain ⟨e1, q1, q2⟩ := h e he _ h1
    exact ⟨e1, by rw [mTupS_ap, q1]; simp only [Option.bind_some]; rw [if_pos (by rw [List.length_map]; exact hl)], q2⟩
  · cases hv
theorem x_lstS {m : M (List PyData)} {t : Option (List α)} (h : XL ea m L t) : XP (eL ea) (mLstS m) L (t.bind fewT) := fun e he v hv => by
  obtain ⟨a, h1, hv⟩ := Option.bind_eq_some_iff.mp hv
  unfold fewT at hv
  split at hv
  · rename_i hl; cases hv
    obtain ⟨e1, q1, q2⟩ := h e he _ h1
    exact ⟨e1, by rw [mLstS_ap, q1]; simp only [Option.bind_some]; rw [if_pos (by rw [List.length_map]; exact hl)], q2⟩
  · cases hv
end
end DL

namespace DL
open PySem PySem.Spec PyProof.Rows L2
/-! ### defs that change a list that is passed -/
/-- a return, the j-th name then a list -/
def RVP {α β : Type} (n j : Nat) (ea : α → PyData) (el : β → PyData) (v : α × List β) (o : Out) : Prop := ∃ e, o = .rt (ea v.1) e ∧ e.length = n ∧ e[j]? = some (some (eL el v.2))
def XEP {τ : Type} (d : τ → PyData) (m : M PyData) (L : SL) (t : Option τ) (L' : τ → SL) : Prop := ∀ e, Mt e L → ∀ v, t = some v → ∃ e', m e = some (d v, e') ∧ Mt e' (L' v)
def FTP {α β γ : Type} (mf : List PyData → Option (PyData × List PyData)) (n j : Nat) (fs : α → List PyData) (ec : γ → PyData) (el : β → PyData) (f : α → Option (γ × List β)) : Prop := ∀ p v l, f p = some (v, l) → (fs p).length = n ∧ ∃ outs, mf (fs p) = some (ec v, outs) ∧ outs[j]? = some (eL el l)
section
variable {α β γ τ ρ : Type} {ea : α → PyData} {eb : β → PyData} {ec : γ → PyData} {el : β → PyData} {L : SL} {R : τ → Out → Prop} {o1 o2 own : Bool}
theorem rvp_ok {n j : Nat} {L : SL} {v : α} {l : List β} {e : Ev} (he : Mt e L) (hl : L.length = n) (h0 : L[j]? = some (some (some (eL el l)))) : RVP n j ea el (v, l) (.rt (ea v) e) := ⟨e, rfl, he.len.trans hl, he.at_ j _ h0⟩
theorem rvp_rt {n j : Nat} : ∀ v o, RVP n j ea el v o → ∃ d e, o = .rt d e := fun v o ⟨e, h, _⟩ => ⟨_, e, h⟩
theorem rvp_nn {n j : Nat} : ∀ v o, RVP n j ea el v o → ∀ e', o ≠ .nx e' := fun v o ⟨e, h, _⟩ e' q => by rw [h] at q; cases q
theorem xb_asgP {d : τ → PyData} {σ : Type} {R : σ → Out → Prop} {m : M PyData} {g : St1} {r : B} {t : Option τ} {T : τ → Option σ} {L' L1 : τ → SL} (h : XEP d m L t L') (hg : ∀ v, XG g (d v) (L' v) (L1 v)) (hr : ∀ v, XB r (L1 v) (T v) R) : XB (sSeq (sAsg m g) r) L (t.bind T) R := fun e he v hv => by
  obtain ⟨x, hx, hv⟩ := Option.bind_eq_some_iff.mp hv
  obtain ⟨e1, q1, q2⟩ := h e he x hx
  obtain ⟨e2, p1, p2⟩ := hg x e1 q2
  obtain ⟨o, r1, r2⟩ := hr x e2 p2 v hv
  refine ⟨o, ?_, r2⟩
  rw [sSeq_ap, sAsg_ap, q1]; simp only [Option.bind_some]
  rw [p1]; exact r1
theorem xb_exprP {d : τ → PyData} {σ : Type} {R : σ → Out → Prop} {m : M PyData} {r : B} {t : Option τ} {T : τ → Option σ} {L' : τ → SL} (h : XEP d m L t L') (hr : ∀ v, XB r (L' v) (T v) R) : XB (sSeq (sExpr m) r) L (t.bind T) R := fun e he v hv => by
  obtain ⟨x, hx, hv⟩ := Option.bind_eq_some_iff.mp hv
  obtain ⟨e1, q1, q2⟩ := h e he x hx
  obtain ⟨o, r1, r2⟩ := hr x e1 q2 v hv
  exact ⟨o, by rw [sSeq_ap, sExpr_ap, q1]; exact r1, r2⟩
/-- operands, which of them are slots -/
def XAP {α : Type} (i j : Nat) (oth : Bool) (m : M (List Opd)) (L : SL) (t : Option α) (fs : α → List PyData) : Prop := ∀ e, Mt e L → ∀ v, t = some v → ∃ os e', m e = some (os, e') ∧ Mt e' L ∧ (∀ e2, Mt e2 L → getAll os e2 = some (fs v)) ∧ onlyAt i j os = true ∧ othersOwn j os = oth
/-- operands that are no slot i -/
def XAN {α : Type} (i : Nat) (own : Bool) (m : M (List Opd)) (L : SL) (t : Option α) (fs : α → List PyData) : Prop := ∀ e, Mt e L → ∀ v, t = some v → ∃ os e', m e = some (os, e') ∧ Mt e' L ∧ (∀ e2, Mt e2 L → getAll os e2 = some (fs v)) ∧ os.any Opd.own = own ∧ noSlot i os = true
theorem xan_nil {i : Nat} : XAN i false mA0 L (some ()) f0 := fun e he v hv => ⟨[], e, rfl, he, fun _ _ => rfl, rfl, rfl⟩
/-- only values beside the list that is passed -/
theorem xan_cons {i : Nat} {m : M PyData} {r : M (List Opd)} {t : Option α} {t' : Option β} {fs : β → List PyData} (h : XP ea m L t) (hr : XAN i own r L t' fs) : XAN i own (mA (mVal m) r) L (t.bind fun a => t'.map fun b => (a, b)) (fC ea fs) := fun e he v hv => by
  obtain ⟨a, h1, hv⟩ := Option.bind_eq_some_iff.mp hv
  obtain ⟨b, h2, rfl⟩ := Option.map_eq_some_iff.mp hv
  obtain ⟨e1, q1, q2⟩ := h e he a h1
  obtain ⟨os, e2, p1, p2, p3, p4, p5⟩ := hr e1 q2 b h2
  refine ⟨.val (ea a) :: os, e2, ?_, p2, fun e3 h3 => ?_, ?_, p5⟩
  · rw [mA_ap, mVal_ap, q1]; simp only [Option.map_some, Option.bind_some]; rw [p1]; rfl
  · rw [getAll_cons, getO_val, p3 e3 h3]; rfl
  · rw [List.any_cons, p4]; rfl
theorem xap_here {i : Nat} {r : M (List Opd)} {l : List β} {t' : Option α} {fs : α → List PyData} (hi : L[i]? = some (some (some (eL el l)))) (hr : XAN i own r L t' fs) : XAP i 0 own (mA (mSlot i) r) L (t'.map fun b => (l, b)) (fC (eL el) fs) := fun e he v hv => by
  obtain ⟨b, h2, rfl⟩ := Option.map_eq_some_iff.mp hv
  have h0 := he.at_ i _ hi
  obtain ⟨os, e2, p1, p2, p3, p4, p5⟩ := hr e he b h2
  refine ⟨.slot i :: os, e2, ?_, p2, fun e3 h3 => ?_, ?_, p4⟩
  · rw [mA_ap, mSlot_ap, h0]; simp only [Option.join_some, Option.map_some, Option.bind_some]; rw [p1]; rfl
  · rw [getAll_cons, getO_slot, h3.at_ i _ hi, p3 e3 h3]; rfl
  · unfold onlyAt; rw [p5]; simp
theorem xap_cons {i j : Nat} {m : M PyData} {r : M (List Opd)} {t : Option α} {t' : Option β} {fs : β → List PyData} (h : XP ea m L t) (hr : XAP i j own r L t' fs) : XAP i (j + 1) own (mA (mVal m) r) L (t.bind fun a => t'.map fun b => (a, b)) (fC ea fs) := fun e he v hv => by
  obtain ⟨a, h1, hv⟩ := Option.bind_eq_some_iff.mp hv
  obtain ⟨b, h2, rfl⟩ := Option.map_eq_some_iff.mp hv
  obtain ⟨e1, q1, q2⟩ := h e he a h1
  obtain ⟨os, e2, p1, p2, p3, p4, p5⟩ := hr e1 q2 b h2
  refine ⟨.val (ea a) :: os, e2, ?_, p2, fun e3 h3 => ?_, ?_, ?_⟩
  · rw [mA_ap, mVal_ap, q1]; simp only [Option.map_some, Option.bind_some]; rw [p1]; rfl
  · rw [getAll_cons, getO_val, p3 e3 h3]; rfl
  · show (true && onlyAt i j os) = true; rw [p4]; rfl
  · show (false || othersOwn j os) = own; rw [p5]; rfl
theorem xap_cv {i j : Nat} {m : M (List Opd)} {t t' : Option α} {fs : α → List PyData} (h : XAP i j own m L t fs) (q : t = t') : XAP i j own m L t' fs := q ▸ h
theorem x_callP {rk kd : Kd} {i j n : Nat} {mf : List PyData → Option (PyData × List PyData)} {m : M (List Opd)} {t : Option α} {fs : α → List PyData} {f : α → Option (γ × List β)} (F : FTP mf n j fs ec el f) (h : XAP i j false m L t fs) :
    XEP (fun v : γ × List β => ec v.1) (mCallP rk kd mf i j n m) L (t.bind f) (fun v => L.set i (some (some (eL el v.2)))) := fun e he v hv => by
  obtain ⟨a, h1, hv⟩ := Option.bind_eq_some_iff.mp hv
  obtain ⟨os, e1, q1, q2, q3, q4, q5⟩ := h e he a h1
  obtain ⟨w, l⟩ := v
  obtain ⟨hn, outs, hf, ho⟩ := F a w l hv
  refine ⟨e1.set i (some (eL el l)), ?_, q2.set i _⟩
  unfold mCallP
  rw [q1]; dsimp only
  rw [q3 e1 q2]; dsimp only
  rw [if_pos ⟨hn, q4⟩, hf]; dsimp only
  rw [ho]; dsimp only
  rw [q5]; rfl
theorem xep_cv {d : τ → PyData} {m : M PyData} {t t' : Option τ} {L' : τ → SL} (h : XEP d m L t L') (q : t = t') : XEP d m L t' L' := q ▸ h
theorem outsOf_at : ∀ {pk : List Kd} {ds : List PyData} {e : Ev} {j : Nat} {kd : Kd} {y : PyData}, pk[j]? = some kd → kd ≠ .frz → (∀ (i : Nat) k, i ≠ j → pk[i]? = some k → k = .frz) → pk.length = ds.length → ds.length ≤ e.length → e[j]? = some (some y) → ∃ outs, outsOf pk ds e = some outs ∧ outs[j]? = some y
  | [], ds, e, j, kd, y, h, _, _, _, _, _ => by simp at h
  | k :: pk, [], e, j, kd, y, _, _, _, h, _, _ => by simp at h
  | k :: pk, d :: ds, [], j, kd, y, _, _, _, _, h, _ => by simp at h
  | k :: pk, d :: ds, x :: e, 0, kd, y, h, hne, ho, hl, hl2, hy => by
    simp at h hy
    subst h; subst hy
    obtain ⟨outs, q⟩ := outsOf_frz (pk := pk) (ds := ds) (e := e) (by
      rw [List.all_eq_true]
      intro k' hk'
      obtain ⟨i, hi⟩ := List.mem_iff_getElem?.mp hk'
      exact decide_eq_true (ho (i + 1) k' (by omega) (by simpa using hi))) (by simpa using hl) (by simpa using hl2)
    refine ⟨y :: outs, ?_, rfl⟩
    cases k <;> first | exact absurd rfl hne | (simp only [outsOf, q]; rfl)
  | k :: pk, d :: ds, x :: e, j + 1, kd, y, h, hne, ho, hl, hl2, hy => by
    have hk : k = .frz := ho 0 k (by omega) rfl
    subst hk
    obtain ⟨outs, q1, q2⟩ := outsOf_at (pk := pk) (ds := ds) (e := e) (j := j) (kd := kd) (y := y) (by simpa using h) hne (fun i k hi hk => ho (i + 1) k (by omega) (by simpa using hk)) (by simpa using hl) (by simpa using hl2) (by simpa using hy)
    exact ⟨d :: outs, by simp only [outsOf, q1]; rfl, by simpa using q2⟩
theorem ftp_of {kd : Kd} {pk : List Kd} {n k j : Nat} {mb : B} {fs : α → List PyData} {f : α → Option (γ × List β)} {rk : Kd} (hpj : pk[j]? = some kd) (hne : kd ≠ .frz) (hpo : ∀ (i : Nat) k, i ≠ j → pk[i]? = some k → k = .frz) (hl : ∀ p, (fs p).length = k) (hpk : pk.length = k) (hkn : k ≤ n)
    (h : ∀ p, XB mb ((fs p).map (fun d => some (some d)) ++ List.replicate (n - k) (some none)) (f p) (RVP n j ec el)) : FTP (mDef rk pk n mb) k j fs ec el f := fun p v l hv => by
  refine ⟨hl p, ?_⟩
  obtain ⟨o, q1, e1, rfl, q2, q3⟩ := h p ((fs p).map some ++ List.replicate (n - (fs p).length) none) ⟨by simp [hl], fun i x hi => by
    rw [List.getElem?_append] at hi ⊢
    rw [List.length_map] at hi ⊢
    split at hi
    · rename_i hlt
      rw [if_pos hlt]
      rw [List.getElem?_map] at hi ⊢
      obtain ⟨d, hd, hx⟩ := Option.map_eq_some_iff.mp hi
      rw [hd]; cases hx; rfl
    · rename_i hlt
      rw [if_neg hlt]
      rw [List.getElem?_replicate] at hi ⊢
      rw [hl p] at hi ⊢
      split at hi
      · rename_i h2; rw [if_pos h2]; cases hi; rfl
      · cases hi⟩ (v, l) hv
  obtain ⟨outs, ho, hy⟩ := outsOf_at (pk := pk) (ds := fs p) (e := e1) hpj hne hpo (by rw [hl, hpk]) (by rw [hl, q2]; exact hkn) q3
  refine ⟨outs, ?_, hy⟩
  unfold mDef
  rw [q1]
  dsimp only
  unfold finB
  rw [ho]; rfl
theorem gone_no : Gone sNo := fun e o h e' q => by cases h
/-! ### powers, shifts, chains of three -/
def powT (a b : Int) : Option Int := if 0 ≤ b ∧ b ≤ 1000000 ∧ a.natAbs < 2 ^ 64 then some (a ^ b.toNat) else none
theorem q_pow : Op2T powD eI eI eI powT := fun a b v h => by
  unfold powT at h
  split at h
  · rename_i hm; cases h; show (if 0 ≤ b ∧ b ≤ 1000000 ∧ a.natAbs < 2 ^ 64 then some (PyData.int (a ^ b.toNat)) else none) = _; rw [if_pos hm]
  · cases h
def shlT (a b : Int) : Option Int := if 0 ≤ b ∧ b ≤ 1000000 ∧ a.natAbs < 2 ^ 64 then some (a * 2 ^ b.toNat) else none
theorem q_shl : Op2T shlD eI eI eI shlT := fun a b v h => by
  unfold shlT at h
  split at h
  · rename_i hm; cases h; show (if 0 ≤ b ∧ b ≤ 1000000 ∧ a.natAbs < 2 ^ 64 then some (PyData.int (a * 2 ^ b.toNat)) else none) = _; rw [if_pos hm]
  · cases h
def rng3T (i j c : Int) : Option (List Int) := if rng62 i = true ∧ rng62 j = true ∧ c = -1 then some ((List.range (i - j).toNat).map fun k : Nat => i + (k : Int) * (-1)) else none
theorem xi_rng3 {m : M (List Opd)} {t : Option (Int × Int × Int × Unit)} (h : XA false m L t (fC eI (fC eI (fC eI f0)))) : XI eI (mRng rg3 m) L (t.bind fun p => rng3T p.1 p.2.1 p.2.2.1) := fun e he v hv => by
  obtain ⟨p, hp, hv⟩ := Option.bind_eq_some_iff.mp hv
  obtain ⟨os, e1, q1, q2, q3, q4⟩ := h e he p hp
  refine ⟨e1, ?_, q2⟩
  rw [mRng_ap, q1]; simp only [Option.bind_some]
  rw [allVal_of (q3 e1 q2) q4]; simp only [Option.bind_some]
  unfold rng3T at hv
  split at hv
  · rename_i hr; cases hv
    show (if (rng62 p.1 && rng62 p.2.1 && decide (p.2.2.1 = -1)) = true then some (dnL p.1 (p.1 - p.2.1).toNat) else none).map _ = _
    rw [if_pos (by rw [hr.1, hr.2.1, decide_eq_true hr.2.2]; rfl)]
    unfold dnL
    simp
  · cases hv
theorem xi_rng3T {m : M (List Opd)} {i j c : Int} (h : XA false m L (some (i, j, c, ())) (fC eI (fC eI (fC eI f0)))) : XI eI (mRng rg3 m) L (rng3T i j c) := xi_rng3 h
theorem rng3_ok {i j : Int} (hi : i.natAbs ≤ 1000000) (hj : j.natAbs ≤ 1000000) : rng3T i j (-1) = some ((List.range (i - j).toNat).map fun k : Nat => i + (k : Int) * (-1)) := by
  unfold rng3T
  rw [if_pos (by unfold rng62; simp only [Bool.and_eq_true, decide_eq_true_eq]; refine ⟨⟨by omega, by omega⟩, ⟨by omega, by omega⟩, ?_⟩; trivial)]
/-! extend, pop, sorted -/
theorem x_ext {i : Nat} {m : M PyData} {r : B} {l : List α} {σ : Type} {R : σ → Out → Prop} {t : Option (List α)} {t' : Option (List α)} {T : List α → Option σ} (hi : L[i]? = some (some (some (eL ea l)))) (h : XP (eL ea) m L t) (q : t' = t.bind fun x => if l.length + x.length ≤ 1000000 then some (l ++ x) else none) (hr : ∀ v, XB r (L.set i (some (some (eL ea v)))) (T v) R) :
    XB (sSeq (sExpr (mExt i m)) r) L (t'.bind T) R := fun e he v hv => by
  subst q
  obtain ⟨y, hy, hv⟩ := Option.bind_eq_some_iff.mp hv
  obtain ⟨x, hx, hy⟩ := Option.bind_eq_some_iff.mp hy
  split at hy
  · rename_i hl
    cases hy
    obtain ⟨e1, q1, q2⟩ := h e he x hx
    obtain ⟨o, r1, r2⟩ := hr _ _ (q2.set i _) v hv
    refine ⟨o, ?_, r2⟩
    have h1 := he.at_ i _ hi
    have h2 := q2.at_ i _ hi
    have a1 : lstAt i e = some (l.map ea) := by rw [lstAt_ap, h1]; rfl
    have a2 : lstAt i e1 = some (l.map ea) := by rw [lstAt_ap, h2]; rfl
    rw [sSeq_ap, sExpr_ap]
    unfold mExt
    rw [a1]; dsimp only
    rw [q1]; dsimp only
    rw [a2]; dsimp only
    rw [if_pos (by rw [List.length_map, List.length_map]; exact hl), ← List.map_append]
    exact r1
  · cases hy
/-- x = l.pop() -/
theorem xb_pop {i : Nat} {g : St1} {r : B} {l : List α} {σ : Type} {R : σ → Out → Prop} {T : α → List α → Option σ} {L1 : α → List α → SL} (hi : L[i]? = some (some (some (eL ea l)))) (hg : ∀ v l', XG g (ea v) (L.set i (some (some (eL ea l')))) (L1 v l')) (hr : ∀ v l', XB r (L1 v l') (T v l') R) :
    XB (sSeq (sAsg (mPop i) g) r) L ((l.getLast?).bind fun v => T v l.dropLast) R := fun e he v hv => by
  obtain ⟨x, hx, hv⟩ := Option.bind_eq_some_iff.mp hv
  have h1 := he.at_ i _ hi
  have a1 : lstAt i e = some (l.map ea) := by rw [lstAt_ap, h1]; rfl
  obtain ⟨e2, p1, p2⟩ := hg x l.dropLast _ (he.set i (some (eL ea l.dropLast)))
  obtain ⟨o, r1, r2⟩ := hr x l.dropLast e2 p2 v hv
  refine ⟨o, ?_, r2⟩
  rw [sSeq_ap, sAsg_ap]
  unfold mPop
  rw [a1]; dsimp only
  rw [List.getLast?_map, hx]
  simp only [Option.map_some, Option.bind_some]
  rw [← List.map_dropLast, p1]
  exact r1
structure SrtE {α : Type} (ea : α → PyData) (le : α → α → Bool) (n : Nat) : Prop where
  alike : ∀ a b, PySem.W.alike (ea a) (ea b) = true
  kind : (∀ a, ∃ x r, ea a = .tuple (x :: r)) ∨ ∀ a, ea a ≠ .none ∧ ∀ xs, ea a ≠ .tuple xs
  lay : ∀ a, layD (ea a) = true
  dep : ∀ a, (ea a).depth ≤ n
  le : ∀ a b, PySem.W.dataLe false id (ea a) (ea b) = le a b
theorem srtI : SrtE eI (fun a b => decide (a ≤ b)) 0 := ⟨fun a b => rfl, .inr fun a => ⟨fun h => (nomatch h), fun xs h => (nomatch h)⟩, fun a => rfl, fun a => by simp, fun a b => by
  have := congrFun (congrFun (PySem.W.dataLe_int (fun x : Int => x)) a) b
  exact this⟩
theorem srtII : SrtE (eTu (fC eI (f1 eI))) (fun p q : Int × Int => decide (p.1 < q.1 ∨ (p.1 = q.1 ∧ p.2 ≤ q.2))) 1 := ⟨fun a b => rfl, .inl fun a => ⟨_, _, rfl⟩, fun a => rfl, fun a => by simp, fun a b => by
  have := congrFun (congrFun (PySem.W.dataLe_ii (fun x : Int × Int => x.1) (fun x : Int × Int => x.2)) a) b
  exact this⟩
def sortT {α : Type} (le : α → α → Bool) (l : List α) : Option (List α) := if l.length ≤ 1000000 then some (l.mergeSort le) else none
theorem layA_all2 {ds : List PyData} (h : ∀ d ∈ ds, layD d = true) : layA ds = true := by
  induction ds with
  | nil => rfl
  | cons d r ih => unfold layA; rw [h d List.mem_cons_self, ih fun x hx => h x (List.mem_cons_of_mem _ hx)]; rfl
theorem q_sorted {le : α → α → Bool} {n : Nat} (S : SrtE ea le n) (hn : n ≤ 60 := by decide) : ∀ (p : List α × Unit) v, (fun p : List α × Unit => sortT le p.1) p = some v → sortedD (fC (eL ea) f0 p) = some (eL ea v) := fun p v h => by
  have h : sortT le p.1 = some v := h
  unfold sortT at h
  split at h
  · rename_i hl
    cases h
    show sortedD [.list (p.1.map ea)] = _
    unfold sortedD
    have mem : ∀ d ∈ p.1.map ea, ∃ a, d = ea a := fun d hd => by obtain ⟨a, _, rfl⟩ := List.mem_map.mp hd; exact ⟨a, rfl⟩
    have a1 : alikeB (p.1.map ea) = true := by
      unfold alikeB
      rw [List.all_eq_true]
      intro d hd
      rw [List.all_eq_true]
      intro d' hd'
      obtain ⟨a, rfl⟩ := mem d hd
      obtain ⟨b, rfl⟩ := mem d' hd'
      exact S.alike a b
    have a2 : sortB (p.1.map ea) = true := by
      unfold sortB
      rw [Bool.or_eq_true, List.all_eq_true, List.all_eq_true]
      refine S.kind.imp (fun h d hd => ?_) fun h d hd => ?_
      · obtain ⟨a, rfl⟩ := mem d hd
        obtain ⟨x, r, e⟩ := h a
        rw [e]
      · obtain ⟨a, rfl⟩ := mem d hd
        obtain ⟨h1, h2⟩ := h a
        cases hc : ea a with
        | none => exact absurd hc h1
        | tuple xs => exact absurd hc (h2 xs)
        | _ => rfl
    have a3 : layA (p.1.map ea) = true := layA_all2 fun d hd => by obtain ⟨a, rfl⟩ := mem d hd; exact S.lay a
    have a4 : PyData.depthAll (p.1.map ea) ≤ 60 := depA_all fun d hd => by obtain ⟨a, rfl⟩ := mem d hd; exact Nat.le_trans (S.dep a) hn
    dsimp only
    rw [if_pos (by rw [a1, a2, a3, decide_eq_true (by rw [List.length_map]; exact hl), decide_eq_true a4]; rfl)]
    unfold sortL
    rw [← List.map_mergeSort (r := le) (s := PySem.W.dataLe false id) (f := ea) fun a _ b _ => (S.le a b).symm]
  · cases h
/-! tuples turned about -/
def revT {α : Type} (xs : List α) (lo : Option Int) : List α := (xs.take (HT.rIx xs.length lo)).reverse
theorem x_revT {m : M Opd} {l : M (Option Int)} {t : Option (List α)} {tl : Option (Option Int)} (hm : XO (eT ea) o1 m L t) (hl : XQ l L tl) (hi : OkI o1 (eT ea)) : XP (eT ea) (mRevT m l) L (t.bind fun xs => tl.bind fun lo => some (revT xs lo)) := fun e he v hv => by
  obtain ⟨xs, h1, hv⟩ := Option.bind_eq_some_iff.mp hv
  obtain ⟨lo, h2, hv⟩ := Option.bind_eq_some_iff.mp hv
  cases hv
  obtain ⟨x, e1, q1, q2, q3, rfl⟩ := hm e he xs h1
  obtain ⟨e2, p1, p2⟩ := hl e1 q2 lo h2
  refine ⟨e2, ?_, p2⟩
  unfold mRevT
  simp only [bnd_ap]
  rw [q1]; simp only [Option.bind_some]
  rw [p1]; simp only [Option.bind_some]
  rw [rs1_ap, q3 e2 p2]; simp only [Option.bind_some]
  have : revTD lo (eT ea xs) = some (eT ea (revT xs lo)) := by
    show some (PyData.tuple (((xs.map ea).take (HT.rIx (xs.map ea).length lo)).reverse)) = _
    rw [List.length_map, ← List.map_take, ← List.map_reverse]
    rfl
  rw [this]; simp only [Option.bind_some]
  exact keepI_ok hi
theorem revT_all {xs : List α} : revT xs none = xs.reverse := by
  unfold revT
  show (xs.take xs.length).reverse = _
  rw [List.take_length]
theorem revT_m2 {xs : List α} : revT xs (some (-2)) = (xs.take (xs.length - 1)).reverse := by
  unfold revT
  have : HT.rIx xs.length (some (-2)) = xs.length - 1 := by
    unfold HT.rIx
    dsimp only
    rw [if_pos (by decide)]; omega
  rw [this]
end
end DL

/-! TYG: data of any kind brought to a told type; slices of such data -/
namespace DL
open PySem PySem.Spec PyProof.Rows L2
section
variable {α β γ : Type} {ea : α → PyData} {ec : γ → PyData} {L : SL} {o1 : Bool}
theorem x_cast {m : M PyData} {t : Option PyData} {x : PyData → Option γ} (hx : ∀ d v, x d = some v → d = ec v) (h : XP eA m L t) : XP ec m L (t.bind x) := fun e he v hv => by
  obtain ⟨d, h1, h2⟩ := Option.bind_eq_some_iff.mp hv
  rw [← hx d v h2]
  exact h e he d h1
theorem x_slA {m : M Opd} {l h : M (Option Int)} {t : Option PyData} {tl th : Option (Option Int)} (hm : XO eA o1 m L t) (hl : XQ l L tl) (hh : XQ h L th) (hi : OkI o1 eA) :
    XP eA (mSl m l h) L (t.bind fun d => tl.bind fun lo => th.bind fun hi => sliceD lo hi d) := fun e he v hv => by
  obtain ⟨d, h1, hv⟩ := Option.bind_eq_some_iff.mp hv
  obtain ⟨lo, h2, hv⟩ := Option.bind_eq_some_iff.mp hv
  obtain ⟨hi', h3, hv⟩ := Option.bind_eq_some_iff.mp hv
  obtain ⟨x, e1, q1, q2, q3, rfl⟩ := hm e he d h1
  obtain ⟨e2, p1, p2⟩ := hl e1 q2 lo h2
  obtain ⟨e3, r1, r2⟩ := hh e2 p2 hi' h3
  refine ⟨e3, ?_, r2⟩
  rw [mSl_ap, q1]; simp only [Option.bind_some]
  rw [p1]; simp only [Option.bind_some]
  rw [r1]; simp only [Option.bind_some]
  rw [rs1_ap, q3 e3 r2]; simp only [Option.bind_some]
  show (sliceD lo hi' d).bind _ = _
  rw [hv]; simp only [Option.bind_some]
  exact keepI_ok hi
end
/-! ### casts -/
section
variable {α β : Type}
def Dc (x : PyData → Option α) (e : α → PyData) : Prop := (∀ d v, x d = some v → d = e v) ∧ ∀ v, x (e v) = some v
def DcF (x : List PyData → Option α) (e : α → List PyData) : Prop := (∀ d v, x d = some v → d = e v) ∧ ∀ v, x (e v) = some v
theorem dcI : Dc asI eI := ⟨asI_x, fun _ => rfl⟩
theorem dcB : Dc bOf eB := ⟨bOf_x, fun _ => rfl⟩
def cvS : PyData → Option Str
  | .str s => some s
  | _ => none
theorem dcS : Dc cvS eS := ⟨fun d v h => by cases d <;> cases h; rfl, fun _ => rfl⟩
def cvLs (x : PyData → Option α) : List PyData → Option (List α)
  | [] => some []
  | d :: r => (x d).bind fun v => (cvLs x r).map fun w => v :: w
def tupOf : PyData → Option (List PyData)
  | .tuple ds => some ds
  | _ => none
def lstOf : PyData → Option (List PyData)
  | .list ds => some ds
  | _ => none
theorem tupOf_x : ∀ {d ds}, tupOf d = some ds → d = .tuple ds := fun {d ds} h => by cases d <;> cases h; rfl
theorem lstOf_x : ∀ {d ds}, lstOf d = some ds → d = .list ds := fun {d ds} h => by cases d <;> cases h; rfl
def cvT (x : PyData → Option α) (d : PyData) : Option (List α) := (tupOf d).bind (cvLs x)
def cvL (x : PyData → Option α) (d : PyData) : Option (List α) := (lstOf d).bind (cvLs x)
theorem cvLs_x {x : PyData → Option α} {e : α → PyData} (h : Dc x e) : ∀ d v, cvLs x d = some v → d = v.map e
  | [], v, q => by cases q; rfl
  | d :: r, v, q => by
    unfold cvLs at q
    obtain ⟨a, h1, h2⟩ := Option.bind_eq_some_iff.mp q
    obtain ⟨w, h3, h4⟩ := Option.map_eq_some_iff.mp h2
    subst h4
    rw [h.1 d a h1, cvLs_x h r w h3]; rfl
theorem cvLs_e {x : PyData → Option α} {e : α → PyData} (h : Dc x e) : ∀ v : List α, cvLs x (v.map e) = some v
  | [] => rfl
  | a :: v => by
    rw [List.map_cons]
    unfold cvLs
    rw [h.2 a, cvLs_e h v]; rfl
theorem dcT {x : PyData → Option α} {e : α → PyData} (h : Dc x e) : Dc (cvT x) (eT e) := ⟨fun d v q => by
  obtain ⟨ds, h1, h2⟩ := Option.bind_eq_some_iff.mp q
  exact (tupOf_x h1).trans (congrArg PyData.tuple (cvLs_x h _ v h2)), fun v => cvLs_e h v⟩
theorem dcL {x : PyData → Option α} {e : α → PyData} (h : Dc x e) : Dc (cvL x) (eL e) := ⟨fun d v q => by
  obtain ⟨ds, h1, h2⟩ := Option.bind_eq_some_iff.mp q
  exact (lstOf_x h1).trans (congrArg PyData.list (cvLs_x h _ v h2)), fun v => cvLs_e h v⟩
def cv0 : List PyData → Option Unit
  | [] => some ()
  | _ => none
def cv1 (x : PyData → Option α) : List PyData → Option α
  | [d] => x d
  | _ => none
def cvC (x : PyData → Option α) (y : List PyData → Option β) : List PyData → Option (α × β)
  | d :: r => (x d).bind fun v => (y r).map fun w => (v, w)
  | [] => none
def cvTu (y : List PyData → Option β) (d : PyData) : Option β := (tupOf d).bind y
theorem dc0 : DcF cv0 f0 := ⟨fun d v h => by cases d <;> cases h; rfl, fun _ => rfl⟩
theorem dc1 {x : PyData → Option α} {e : α → PyData} (h : Dc x e) : DcF (cv1 x) (f1 e) := by
  refine ⟨fun d v q => ?_, fun v => h.2 v⟩
  cases d with
  | nil => cases q
  | cons a r =>
    cases r with
    | nil => exact congrArg (fun z => [z]) (h.1 a v q)
    | cons b r => cases q
theorem dcC {x : PyData → Option α} {e : α → PyData} {y : List PyData → Option β} {f : β → List PyData} (h : Dc x e) (g : DcF y f) : DcF (cvC x y) (fC e f) := by
  refine ⟨fun d v q => ?_, fun v => ?_⟩
  · cases d with
    | nil => cases q
    | cons a r =>
      obtain ⟨v1, h1, h2⟩ := Option.bind_eq_some_iff.mp q
      obtain ⟨w, h3, h4⟩ := Option.map_eq_some_iff.mp h2
      subst h4
      exact (congrArg (fun z => z :: r) (h.1 a v1 h1)).trans (congrArg (fun z => e v1 :: z) (g.1 r w h3))
  · show ((x (e v.1)).bind fun a => (y (f v.2)).map fun w => (a, w)) = some v
    rw [h.2, g.2]; rfl
theorem dcTu {y : List PyData → Option β} {f : β → List PyData} (g : DcF y f) : Dc (cvTu y) (eTu f) := ⟨fun d v q => by
  obtain ⟨ds, h1, h2⟩ := Option.bind_eq_some_iff.mp q
  exact (tupOf_x h1).trans (congrArg PyData.tuple (g.1 _ v h2)), fun v => g.2 v⟩
end
end DL

/-! TYH: typed stores into own lists and own rows. -/
namespace DL
open PySem PySem.Spec PyProof.Rows L2
section
variable {α β γ τ : Type} {ea : α → PyData} {eb : β → PyData} {ec : γ → PyData} {L : SL} {R : τ → Out → Prop}
def setT (l : List α) (k : Int) (y : α) : Option (List α) := (ixN l.length k).map fun j => l.set j y
def set2T (rows : List (List α)) (a b : Int) (y : α) : Option (List (List α)) := (ixN rows.length a).bind fun j => rows[j]?.bind fun row => (ixN row.length b).map fun m => rows.set j (row.set m y)
def at2T (rows : List (List α)) (a b : Int) : Option α := (atI rows a).bind fun row => atI row b
theorem lstAt_mt {i : Nat} {e : Ev} {ds : List PyData} (he : Mt e L) (hi : L[i]? = some (some (some (.list ds)))) : lstAt i e = some ds := by
  unfold lstAt; rw [he.at_ i _ hi]
theorem rowsAt_mt {i : Nat} {e : Ev} {rows : List (List α)} (he : Mt e L) (hi : L[i]? = some (some (some (eL (eL ea) rows)))) : rowsAt i e = some (rows.map fun r => r.map ea) := by
  unfold rowsAt; rw [he.at_ i _ hi]
  show rowsOf (rows.map (eL ea)) = _
  rw [← rowsOf_map, List.map_map]; rfl
theorem setset {i : Nat} {x y : Option (Option PyData)} : (L.set i x).set i y = L.set i y := List.set_set ..
theorem xb_put1 {i : Nat} {me mi : M PyData} {r : B} {l : List α} {t : Option α} {tk : Option Int} {t' : Option (List α)} {T : List α → Option τ} (hi : L[i]? = some (some (some (eL ea l)))) (h : XP ea me L t) (hk : XP eI mi (L.set i (some none)) tk) (q : t' = t.bind fun y => tk.bind fun k => setT l k y)
    (hr : ∀ v, XB r (L.set i (some (some (eL ea v)))) (T v) R) : XB (sSeq (sPut1 i me mi) r) L (t'.bind T) R := fun e he v hv => by
  subst q
  obtain ⟨l', hl', hv⟩ := Option.bind_eq_some_iff.mp hv
  obtain ⟨y, hy, hl'⟩ := Option.bind_eq_some_iff.mp hl'
  obtain ⟨k, hk', hl'⟩ := Option.bind_eq_some_iff.mp hl'
  obtain ⟨j, hj, rfl⟩ := Option.map_eq_some_iff.mp hl'
  obtain ⟨e1, q1, q2⟩ := h e he y hy
  obtain ⟨e2, p1, p2⟩ := hk _ (q2.set i none) k hk'
  have p3 := p2.set i (some (eL ea (l.set j y)))
  rw [setset] at p3
  obtain ⟨o, r1, r2⟩ := hr _ _ p3 v hv
  refine ⟨o, ?_, r2⟩
  have e3 : sPut1 i me mi e = some (.nx (e2.set i (some (eL ea (l.set j y))))) := by
    unfold sPut1
    simp only [q1, lstAt_mt q2 hi, p1, List.length_map, hj]
    rw [show (List.map ea l).set j (ea y) = List.map ea (l.set j y) from List.map_set.symm]
  rw [sSeq_ap, e3]; exact r1
theorem xb_aug1 {i : Nat} {g : PyData → PyData → Option PyData} {me mi : M PyData} {r : B} {l : List α} {t : Option β} {tk : Option Int} {f : α → β → Option α} {t' : Option (List α)} {T : List α → Option τ} (op : Op2T g ea eb ea f) (hi : L[i]? = some (some (some (eL ea l)))) (hk : XP eI mi (L.set i (some none)) tk) (h : XP eb me (L.set i (some none)) t)
    (q : t' = tk.bind fun k => t.bind fun y => (atI l k).bind fun x => (f x y).bind fun z => setT l k z)
    (hr : ∀ v, XB r (L.set i (some (some (eL ea v)))) (T v) R) : XB (sSeq (sAug1 i g mi me) r) L (t'.bind T) R := fun e he v hv => by
  subst q
  obtain ⟨l', hl', hv⟩ := Option.bind_eq_some_iff.mp hv
  obtain ⟨k, hk', hl'⟩ := Option.bind_eq_some_iff.mp hl'
  obtain ⟨y, hy, hl'⟩ := Option.bind_eq_some_iff.mp hl'
  obtain ⟨x, hx, hl'⟩ := Option.bind_eq_some_iff.mp hl'
  obtain ⟨z, hz, hl'⟩ := Option.bind_eq_some_iff.mp hl'
  obtain ⟨j, hj, rfl⟩ := Option.map_eq_some_iff.mp hl'
  obtain ⟨e1, q1, q2⟩ := hk _ (he.set i none) k hk'
  obtain ⟨e2, p1, p2⟩ := h e1 q2 y hy
  have p3 := p2.set i (some (eL ea (l.set j z)))
  rw [setset] at p3
  obtain ⟨o, r1, r2⟩ := hr _ _ p3 v hv
  refine ⟨o, ?_, r2⟩
  rw [atI_ixN hj] at hx
  have e3 : sAug1 i g mi me e = some (.nx (e2.set i (some (eL ea (l.set j z))))) := by
    unfold sAug1
    simp only [q1, lstAt_mt he hi, p1, List.length_map, hj, List.getElem?_map, hx, Option.map_some, op x y z hz]
    rw [show (List.map ea l).set j (ea z) = List.map ea (l.set j z) from List.map_set.symm]
  rw [sSeq_ap, e3]; exact r1
theorem x_get2 {i : Nat} {ma mb : M PyData} {rows : List (List α)} {ta tb : Option Int} (hi : L[i]? = some (some (some (eL (eL ea) rows)))) (ha : XP eI ma (L.set i (some none)) ta) (hb : XP eI mb (L.set i (some none)) tb) :
    XP ea (mGet2 i ma mb) L (ta.bind fun a => tb.bind fun b => at2T rows a b) := fun e he v hv => by
  obtain ⟨a, ha', hv⟩ := Option.bind_eq_some_iff.mp hv
  obtain ⟨b, hb', hv⟩ := Option.bind_eq_some_iff.mp hv
  obtain ⟨row, hrow, hv⟩ := Option.bind_eq_some_iff.mp hv
  obtain ⟨j, hj, hr⟩ := Option.bind_eq_some_iff.mp hrow
  obtain ⟨e1, q1, q2⟩ := ha _ (he.set i none) a ha'
  obtain ⟨e2, p1, p2⟩ := hb e1 q2 b hb'
  have p3 := p2.set i (some (eL (eL ea) rows))
  rw [setset] at p3
  have eL' : L.set i (some (some (eL (eL ea) rows))) = L := by
    refine List.ext_getElem? fun j => ?_
    rw [List.getElem?_set]
    by_cases hj : i = j
    · subst hj
      rw [if_pos rfl, hi, if_pos (List.getElem?_eq_some_iff.mp hi).1]
    · rw [if_neg hj]
  rw [eL'] at p3
  refine ⟨_, ?_, p3⟩
  have h2 : List.map PyData.list (List.map (fun r => List.map ea r) rows) = rows.map (eL ea) := by rw [List.map_map]; rfl
  have h3 : atI (List.map ea row) b = some (ea v) := by rw [atI_map, hv]; rfl
  unfold mGet2
  simp only [rowsAt_mt he hi, q1, p1, List.length_map, hj, List.getElem?_map, hr, Option.map_some, h3, h2]
theorem xb_put2 {i : Nat} {me ma mb : M PyData} {r : B} {rows : List (List α)} {t : Option α} {ta tb : Option Int} {t' : Option (List (List α))} {T : List (List α) → Option τ} (hi : L[i]? = some (some (some (eL (eL ea) rows)))) (h : XP ea me L t) (ha : XP eI ma (L.set i (some none)) ta) (hb : XP eI mb (L.set i (some none)) tb)
    (q : t' = t.bind fun y => ta.bind fun a => tb.bind fun b => set2T rows a b y)
    (hr : ∀ v, XB r (L.set i (some (some (eL (eL ea) v)))) (T v) R) : XB (sSeq (sPut2 i me ma mb) r) L (t'.bind T) R := fun e he v hv => by
  subst q
  obtain ⟨l', hl', hv⟩ := Option.bind_eq_some_iff.mp hv
  obtain ⟨y, hy, hl'⟩ := Option.bind_eq_some_iff.mp hl'
  obtain ⟨a, ha', hl'⟩ := Option.bind_eq_some_iff.mp hl'
  obtain ⟨b, hb', hl'⟩ := Option.bind_eq_some_iff.mp hl'
  obtain ⟨j, hj, hl'⟩ := Option.bind_eq_some_iff.mp hl'
  obtain ⟨row, hrow, hl'⟩ := Option.bind_eq_some_iff.mp hl'
  obtain ⟨m, hm, rfl⟩ := Option.map_eq_some_iff.mp hl'
  obtain ⟨e0, g1, g2⟩ := h e he y hy
  obtain ⟨e1, q1, q2⟩ := ha _ (g2.set i none) a ha'
  obtain ⟨e2, p1, p2⟩ := hb e1 q2 b hb'
  have p3 := p2.set i (some (eL (eL ea) (rows.set j (row.set m y))))
  rw [setset] at p3
  obtain ⟨o, r1, r2⟩ := hr _ _ p3 v hv
  refine ⟨o, ?_, r2⟩
  have h2 : ∀ rs : List (List α), List.map PyData.list (List.map (fun r => List.map ea r) rs) = rs.map (eL ea) := fun rs => by rw [List.map_map]; rfl
  have e3 : sPut2 i me ma mb e = some (.nx (e2.set i (some (eL (eL ea) (rows.set j (row.set m y)))))) := by
    unfold sPut2
    simp only [g1, rowsAt_mt g2 hi, q1, p1, List.length_map, hj, List.getElem?_map, hrow, Option.map_some, hm]
    rw [show (List.map ea row).set m (ea y) = List.map ea (row.set m y) from List.map_set.symm, show (List.map (fun r => List.map ea r) rows).set j (List.map ea (row.set m y)) = List.map (fun r => List.map ea r) (rows.set j (row.set m y)) from List.map_set.symm, h2]
  rw [sSeq_ap, e3]; exact r1
theorem xb_aug2 {i : Nat} {g : PyData → PyData → Option PyData} {me ma mb : M PyData} {r : B} {rows : List (List α)} {t : Option β} {ta tb : Option Int} {f : α → β → Option α} {t' : Option (List (List α))} {T : List (List α) → Option τ} (op : Op2T g ea eb ea f) (hi : L[i]? = some (some (some (eL (eL ea) rows)))) (ha : XP eI ma (L.set i (some none)) ta) (hb : XP eI mb (L.set i (some none)) tb) (h : XP eb me (L.set i (some none)) t)
    (q : t' = ta.bind fun a => tb.bind fun b => t.bind fun y => (at2T rows a b).bind fun x => (f x y).bind fun z => set2T rows a b z)
    (hr : ∀ v, XB r (L.set i (some (some (eL (eL ea) v)))) (T v) R) : XB (sSeq (sAug2 i g ma mb me) r) L (t'.bind T) R := fun e he v hv => by
  subst q
  obtain ⟨l', hl', hv⟩ := Option.bind_eq_some_iff.mp hv
  obtain ⟨a, ha', hl'⟩ := Option.bind_eq_some_iff.mp hl'
  obtain ⟨b, hb', hl'⟩ := Option.bind_eq_some_iff.mp hl'
  obtain ⟨y, hy, hl'⟩ := Option.bind_eq_some_iff.mp hl'
  obtain ⟨x, hx, hl'⟩ := Option.bind_eq_some_iff.mp hl'
  obtain ⟨z, hz, hl'⟩ := Option.bind_eq_some_iff.mp hl'
  obtain ⟨j, hj, hl'⟩ := Option.bind_eq_some_iff.mp hl'
  obtain ⟨row, hrow, hl'⟩ := Option.bind_eq_some_iff.mp hl'
  obtain ⟨m, hm, rfl⟩ := Option.map_eq_some_iff.mp hl'
  obtain ⟨e1, q1, q2⟩ := ha _ (he.set i none) a ha'
  obtain ⟨e2, p1, p2⟩ := hb e1 q2 b hb'
  obtain ⟨e4, s1, s2⟩ := h e2 p2 y hy
  have p3 := s2.set i (some (eL (eL ea) (rows.set j (row.set m z))))
  rw [setset] at p3
  obtain ⟨o, r1, r2⟩ := hr _ _ p3 v hv
  refine ⟨o, ?_, r2⟩
  have hx2 : row[m]? = some x := by
    unfold at2T at hx
    rw [atI_ixN hj, hrow] at hx
    exact (atI_ixN hm).symm.trans hx
  have h2 : ∀ rs : List (List α), List.map PyData.list (List.map (fun r => List.map ea r) rs) = rs.map (eL ea) := fun rs => by rw [List.map_map]; rfl
  have e3 : sAug2 i g ma mb me e = some (.nx (e4.set i (some (eL (eL ea) (rows.set j (row.set m z)))))) := by
    unfold sAug2
    simp only [rowsAt_mt he hi, q1, p1, s1, List.length_map, hj, List.getElem?_map, hrow, Option.map_some, hm, hx2, op x y z hz]
    rw [show (List.map ea row).set m (ea z) = List.map ea (row.set m z) from List.map_set.symm, show (List.map (fun r => List.map ea r) rows).set j (List.map ea (row.set m z)) = List.map (fun r => List.map ea r) (rows.set j (row.set m z)) from List.map_set.symm, h2]
  rw [sSeq_ap, e3]; exact r1
def rep1T (x : α) (n : Int) : Option (List α) := if n.natAbs ≤ 10000 then some (List.replicate n.toNat x) else none
theorem rep1_flat (x : PyData) : ∀ n : Nat, (List.replicate n [x]).flatten = List.replicate n x
  | 0 => rfl
  | n + 1 => by rw [List.replicate_succ, List.flatten_cons, rep1_flat x n, List.replicate_succ]; rfl
theorem x_rep1 {m mb : M PyData} {t : Option α} {tn : Option Int} (h : XP ea m L t) (hb : XP eI mb L tn) : XP (eL ea) (mRep (mA (mVal m) mA0) mb) L (t.bind fun x => tn.bind fun n => rep1T x n) := fun e he v hv => by
  obtain ⟨x, hx, hv⟩ := Option.bind_eq_some_iff.mp hv
  obtain ⟨n, hn, hv⟩ := Option.bind_eq_some_iff.mp hv
  unfold rep1T at hv
  split at hv
  · rename_i hl
    cases hv
    obtain ⟨e1, q1, q2⟩ := h e he x hx
    obtain ⟨e2, p1, p2⟩ := hb e1 q2 n hn
    refine ⟨e2, ?_, p2⟩
    have e3 : mA (mVal m) mA0 e = some ([.val (ea x)], e1) := by
      simp only [mA, mVal, bnd, q1, ret, mA0]
    simp only [mRep, bnd, e3, p1, lft, allVal]
    rw [if_pos ⟨by simp, hl⟩, rep1_flat]
    show some (PyData.list _, e2) = some (PyData.list _, e2)
    rw [List.map_replicate]
  · cases hv
end

theorem ft_recN {α γ : Type} {ms : (List PyData → Option (PyData × List PyData)) → List PyData → Option (PyData × List PyData)} {k : Nat} {fs : α → List PyData} {ec : γ → PyData} {T : Nat → α → Option γ} (h0 : ∀ p, T 0 p = none) (hs : ∀ n m, FT m k fs ec (T n) → FT (ms m) k fs ec (T (n + 1))) : ∀ n, FT (recM ms n) k fs ec (T n)
  | 0 => fun p v hv => by rw [h0] at hv; cases hv
  | n + 1 => hs n _ (ft_recN h0 hs n)
theorem fts_recN {α γ : Type} {ms : (List PyData → Option (PyData × List PyData)) → List PyData → Option (PyData × List PyData)} {k : Nat} {fs : α → List PyData} {ec : γ → PyData} {T : Nat → α → Src → Option (γ × Src)} (h0 : ∀ p s, T 0 p s = none) (hs : ∀ n m, FTS m k fs ec (T n) → FTS (ms m) k fs ec (T (n + 1))) : ∀ n, FTS (recM ms n) k fs ec (T n)
  | 0 => fun s p v s' hv => by rw [h0] at hv; cases hv
  | n + 1 => hs n _ (fts_recN h0 hs n)
theorem q_eqE {α β γ : Type} {ea : α → PyData} {eb : β → PyData} {ec : γ → PyData} {f : α → β → Option γ} (h : Op2T eqD ea eb ec f) : Op2T eqE ea eb ec f := fun a b v hv => by
  show (match eqD (ea a) (eb b) with | some r => some r | none => _) = _
  rw [h a b v hv]
theorem eqE_of {d e r : PyData} (h : eqD d e = some r) : eqE d e = some r := by
  show (match eqD d e with | some r => some r | none => _) = _
  rw [h]
end DL

/-! TYI: typed comprehensions over own lists that stay; tuples of any data read backwards. -/
namespace DL
open PySem PySem.Spec PyProof.Rows L2
theorem set_same {L : SL} {i : Nat} {x : Option (Option PyData)} (hi : L[i]? = some x) : L.set i x = L := by
  refine List.ext_getElem? fun j => ?_
  rw [List.getElem?_set]
  by_cases hj : i = j
  · subst hj
    rw [if_pos rfl, hi, if_pos (List.getElem?_eq_some_iff.mp hi).1]
  · rw [if_neg hj]
section
variable {α β : Type} {ea : α → PyData} {eb : β → PyData} {L : SL}
theorem x_compK {i : Nat} {g : St1} {t : M Bool} {m : M PyData} {vs : List Nat} {l : List α} {p : α → Option Bool} {f : α → Option β} {L1 : α → SL} (hi : L[i]? = some (some (some (eL ea l)))) (hg : ∀ x, XG g (ea x) (wipeL (L.set i (some none)) vs) (L1 x)) (hw : ∀ x, LEs (wipeL (L.set i (some none)) vs) (wipeL (L1 x) vs)) (ht : ∀ x, XT t (L1 x) (p x)) (hm : ∀ x, XP eb m (L1 x) (f x)) :
    XP (eL eb) (mCompK i g t m vs) L (compG p f l) := fun e he v hv => by
  unfold compG at hv
  split at hv
  · rename_i hl
    have q2 := he.set i none
    obtain ⟨e2, p1, p2⟩ := compL_T hg ht hm hw (q2.wipe vs) hv
    have b := (q2.back (L2 := L.set i (some none)) p2 rfl fun _ _ _ z => z).set i (some (eL ea l))
    rw [setset, set_same hi] at b
    refine ⟨_, ?_, b⟩
    unfold mCompK
    rw [lstAt_mt he hi]; dsimp only
    rw [if_pos (by rw [List.length_map]; exact hl), p1]
  · cases hv
theorem x_revTA {m : M Opd} {l : M (Option Int)} {t : Option PyData} {tl : Option (Option Int)} (hm : XO eA false m L t) (hl : XQ l L tl) : XP eA (mRevT m l) L (t.bind fun d => tl.bind fun lo => revTD lo d) := fun e he v hv => by
  obtain ⟨d, h1, hv⟩ := Option.bind_eq_some_iff.mp hv
  obtain ⟨lo, h2, hv⟩ := Option.bind_eq_some_iff.mp hv
  obtain ⟨x, e1, q1, q2, q3, q4⟩ := hm e he d h1
  obtain ⟨e2, p1, p2⟩ := hl e1 q2 lo h2
  refine ⟨e2, ?_, p2⟩
  have g3 := q3 e2 p2
  simp only [mRevT, bnd, q1, p1, rs1, g3, q4]
  show (match revTD lo d with | none => none | some r => _) = _
  rw [hv]
  simp
end
section
variable {α β : Type} {ea : α → PyData} {eb : β → PyData} {L : Src → SL}
theorem xs_compK {i : Nat} {g : St1} {t : M Bool} {m : M PyData} {vs : List Nat} {l : List α} {p : α → Src → Option (Bool × Src)} {f : α → Src → Option (β × Src)} {L1 : α → Src → SL} (hi : ∀ s, (L s)[i]? = some (some (some (eL ea l)))) (hg : ∀ x s, XG g (ea x) (wipeL ((L s).set i (some none)) vs) (L1 x s)) (hw : ∀ x s, LEs (wipeL ((L s).set i (some none)) vs) (wipeL (L1 x s) vs))
    (hlen : ∀ s s', (L s).length = (L s').length) (hvs : ∀ j ∈ vs, ∀ s s' x, ((L s).set i (some none))[j]? = some (some x) → ((L s').set i (some none))[j]? = some (some x)) (ht : ∀ x, XSB t (L1 x) (p x)) (hm : ∀ x, XS eb m (L1 x) (f x)) : XS (eL eb) (mCompK i g t m vs) L (compGS p f l) := fun s e he v s' hv => by
  unfold compGS at hv
  split at hv
  · rename_i hl
    have q2 := he.set i none
    obtain ⟨e2, p1, p2⟩ := compL_S (L := fun s => (L s).set i (some none)) hg ht hm hw (q2.wipe vs) hv
    have b := (q2.back (L2 := (L s').set i (some none)) p2 (by rw [List.length_set, List.length_set]; exact hlen _ _) fun j hj x hx => hvs j hj _ _ x hx).set i (some (eL ea l))
    rw [setset, set_same (hi s')] at b
    refine ⟨_, ?_, b⟩
    unfold mCompK
    rw [lstAt_mt he (hi s)]; dsimp only
    rw [if_pos (by rw [List.length_map]; exact hl), p1]
  · cases hv
end

theorem x_callB1E {α γ : Type} {ea : α → PyData} {ec : γ → PyData} {L L' : SL} {g : List PyData → Option PyData} {m : M PyData} {t : Option α} {f : α × Unit → Option γ} (op : ∀ p v, f p = some v → g (fC ea f0 p) = some (ec v)) (h : XE ea m L t L') : XE ec (mCallB g (mA (mVal m) mA0)) L (t.bind fun a => f (a, ())) L' := fun e he v hv => by
  obtain ⟨a, ha, hv⟩ := Option.bind_eq_some_iff.mp hv
  obtain ⟨e1, q1, q2⟩ := h e he a ha
  refine ⟨e1, ?_, q2⟩
  have h2 := op (a, ()) v hv
  have e3 : mA (mVal m) mA0 e = some ([.val (ea a)], e1) := by
    simp only [mA, mVal, bnd, q1, ret, mA0]
  simp only [mCallB, bnd, e3, rsN, getAll, Opd.get]
  show (match g [ea a] with | none => none | some r => _) = _
  rw [show g [ea a] = some (ec v) from h2]
  simp [Opd.own]
end DL

/-! TYJ: typed: xs[::-1] of an own list, try, dicts of one's own (kept as data). -/
namespace DL
open PySem PySem.Spec PyProof.Rows L2
section
variable {α β γ τ : Type} {ea : α → PyData} {eb : β → PyData} {L : SL} {own : Bool} {R : τ → Out → Prop}
theorem x_revS {m : M Opd} {t : Option (List α)} (h : XO (eL ea) own m L t) : XP (eL ea) (mRevS m) L (t.map List.reverse) := fun e he v hv => by
  obtain ⟨l, h1, rfl⟩ := Option.map_eq_some_iff.mp hv
  obtain ⟨o, e', g1, g2, g3, _⟩ := h e he l h1
  refine ⟨e', ?_, g2⟩
  unfold mRevS bnd
  rw [g1]
  dsimp only
  rw [g3 e' g2]
  simp only [eL, List.map_reverse]
theorem xb_try {ym : M PyData} {m mh : B} {ty : Option Bool} {th tb : Option τ} (hy : XP eB ym L ty) (hh : XB mh L th R) (hm : XB m L tb R) : XB (sTry (sRet ym) m mh) L (ty.bind fun b => if b = true then th else tb) R := fun e he v hv => by
  obtain ⟨b, h1, h2⟩ := Option.bind_eq_some_iff.mp hv
  obtain ⟨e', g1, g2⟩ := hy e he b h1
  have q : sRet ym e = some (.rt (.bool b) e') := by unfold sRet; rw [g1]
  cases b with
  | true =>
    rw [if_pos rfl] at h2
    obtain ⟨o, k1, k2⟩ := hh e' g2 v h2
    exact ⟨o, by unfold sTry; rw [q]; exact k1, k2⟩
  | false =>
    rw [if_neg (by decide)] at h2
    obtain ⟨o, k1, k2⟩ := hm e he v h2
    exact ⟨o, by unfold sTry; rw [q]; exact k1, k2⟩
def dInT (kd : Kd) (d k : PyData) : Option Bool := match d with
  | .dict kvs => if kOk kd k = true then some (hasD kvs k) else none
  | _ => none
def dGetT (kd : Kd) (d k : PyData) : Option PyData := match d with
  | .dict kvs => if kOk kd k = true then valD kvs k else none
  | _ => none
def dPutT (kd : Kd) (d k v : PyData) : Option PyData := match d with
  | .dict kvs => if kOk kd k = true ∧ kvs.length ≤ 1000000 then some (.dict (putD kvs k v)) else none
  | _ => none
theorem dctAt_of {i : Nat} {e : Ev} {kvs : List (PyData × PyData)} (h : e[i]? = some (some (.dict kvs))) : dctAt i e = some kvs := by unfold dctAt; rw [h]
theorem x_dIn {kd : Kd} {i : Nat} {d : PyData} {m : M PyData} {t : Option α} (hi : L[i]? = some (some (some (eA d)))) (h : XP ea m L t) : XP eB (mDIn kd i m) L (t.bind fun k => dInT kd d (ea k)) := fun e he v hv => by
  obtain ⟨k, h1, h2⟩ := Option.bind_eq_some_iff.mp hv
  obtain ⟨e', g1, g2⟩ := h e he k h1
  unfold dInT at h2
  split at h2
  · split at h2
    · rename_i ok
      cases h2
      exact ⟨e', by unfold mDIn; rw [g1]; dsimp only; rw [dctAt_of (g2.at_ _ _ hi)]; dsimp only; rw [if_pos ok], g2⟩
    · cases h2
  · cases h2
theorem x_dNotIn {kd : Kd} {i : Nat} {d : PyData} {m : M PyData} {t : Option α} (hi : L[i]? = some (some (some (eA d)))) (h : XP ea m L t) : XP eB (mDNotIn kd i m) L (t.bind fun k => (dInT kd d (ea k)).map fun b => !b) := fun e he v hv => by
  obtain ⟨k, h1, h2⟩ := Option.bind_eq_some_iff.mp hv
  obtain ⟨e', g1, g2⟩ := h e he k h1
  obtain ⟨b, h3, h4⟩ := Option.map_eq_some_iff.mp h2
  subst h4
  unfold dInT at h3
  split at h3
  · split at h3
    · rename_i ok
      have z := Option.some.inj h3
      subst z
      exact ⟨e', by unfold mDNotIn; rw [g1]; dsimp only; rw [dctAt_of (g2.at_ _ _ hi)]; dsimp only; rw [if_pos ok], g2⟩
    · cases h3
  · cases h3
theorem x_dGet {kd : Kd} {i : Nat} {d : PyData} {m : M PyData} {t : Option α} (hi : L[i]? = some (some (some (eA d)))) (h : XP ea m L t) : XP eA (mDGet kd i m) L (t.bind fun k => dGetT kd d (ea k)) := fun e he v hv => by
  obtain ⟨k, h1, h2⟩ := Option.bind_eq_some_iff.mp hv
  obtain ⟨e', g1, g2⟩ := h e he k h1
  unfold dGetT at h2
  split at h2
  · split at h2
    · rename_i ok
      exact ⟨e', by unfold mDGet; rw [dctAt_of (he.at_ _ _ hi)]; dsimp only; rw [g1]; dsimp only; rw [dctAt_of (g2.at_ _ _ hi)]; dsimp only; rw [if_pos ok, h2]; rfl, g2⟩
    · cases h2
  · cases h2
theorem xb_dPut {kd : Kd} {i : Nat} {d : PyData} {me mi : M PyData} {r : B} {t : Option α} {tk : Option β} {T : PyData → Option τ} (hi : L[i]? = some (some (some (eA d)))) (he : XP ea me L t) (hk : XP eb mi (L.set i (some none)) tk) {t' : Option PyData} (q : t' = t.bind fun v => tk.bind fun k => dPutT kd d (eb k) (ea v)) (hr : ∀ d', XB r (L.set i (some (some (eA d')))) (T d') R) :
    XB (sSeq (DL.sDPut kd i me mi) r) L (t'.bind T) R := fun e hm v hv => by
  subst q
  obtain ⟨d', h0, h5⟩ := Option.bind_eq_some_iff.mp hv
  obtain ⟨x, h1, h2⟩ := Option.bind_eq_some_iff.mp h0
  obtain ⟨k, h3, h4⟩ := Option.bind_eq_some_iff.mp h2
  obtain ⟨e1, g1, g2⟩ := he e hm x h1
  obtain ⟨e2, g3, g4⟩ := hk _ (g2.set i none) k h3
  unfold dPutT at h4
  split at h4
  · rename_i kvs
    split at h4
    · rename_i ok
      cases h4
      have hL : L.set i (some (some (PyData.dict (putD kvs (eb k) (ea x))))) = (L.set i (some none)).set i (some (some (PyData.dict (putD kvs (eb k) (ea x))))) := by rw [List.set_set]
      obtain ⟨o, k1, k2⟩ := hr _ (e2.set i (some (.dict (putD kvs (eb k) (ea x))))) (by show Mt _ (L.set i (some (some (PyData.dict (putD kvs (eb k) (ea x)))))); rw [hL]; exact g4.set i _) v h5
      refine ⟨o, ?_, k2⟩
      unfold sSeq DL.sDPut
      rw [g1]; dsimp only
      rw [dctAt_of (g2.at_ _ _ hi)]; dsimp only
      rw [g3]; dsimp only
      rw [if_pos ok]
      exact k1
    · cases h4
  · cases h4
end
end DL

/-! TYR: what is shown tells the datum (numbers, truths, none, tuples and lists of such) -/
namespace DL
open PySem PySem.Spec PyProof.Rows L2
def cd (x : Str) : List Nat := x.cps.toList
theorem cd_app (a b : Str) : cd (a ++ b) = cd a ++ cd b := by
  show (a.cps ++ b.cps).toList = _
  rw [Array.toList_append]; rfl
theorem cd_inj {a b : Str} (h : cd a = cd b) : a = b := by
  cases a; cases b
  unfold cd at h
  congr 1
  exact Array.toList_inj.mp h
def decD (m : Nat) : List Nat := (Nat.toDigits 10 m).map Char.toNat
theorem decD_inj {a b : Nat} (h : decD a = decD b) : a = b := by
  have := congrArg PySem.NumText.digitsVal h
  unfold decD at this
  rwa [PySem.W.KIN.val_back, PySem.W.KIN.val_back] at this
def isDg (c : Nat) : Bool := decide (48 ≤ c) && decide (c ≤ 57)
theorem decD_dg (m : Nat) : ∀ c ∈ decD m, isDg c = true := by
  intro c hc
  obtain ⟨ch, hch, e⟩ := List.mem_map.mp hc
  have r := digit_range (Nat.isDigit_of_mem_toDigits (by decide) (by decide) hch)
  rw [← e]
  unfold isDg
  simp only [Bool.and_eq_true, decide_eq_true_eq]
  exact r
theorem decD_ne (m : Nat) : decD m ≠ [] := by
  intro h
  have := toDigits_len_ge 10 m
  rw [List.map_eq_nil_iff.mp h] at this
  exact absurd this (by decide)
theorem cd_nat (m : Nat) : cd (Str.ofString (toString ((m : Nat) : Int))) = decD m := PySem.W.KIN.signs_num m
theorem cd_neg (m : Nat) : cd (Str.ofString (toString (Int.negSucc m))) = 45 :: decD (m + 1) := by
  unfold cd
  rw [Str.ofString_eq_toList]
  show (("-" ++ Nat.repr (m + 1)).toList.map Char.toNat) = _
  rw [String.toList_append, Nat.toList_repr]
  rfl
def SStp (r : List Nat) : Prop := ∀ c l, r = c :: l → c = 44 ∨ c = 41 ∨ c = 93
theorem dig_split {a b : List Nat} {r r' : List Nat} (ha : ∀ c ∈ a, isDg c = true) (hb : ∀ c ∈ b, isDg c = true) (hr : SStp r) (hr' : SStp r') (h : a ++ r = b ++ r') : a = b ∧ r = r' := by
  have nt : ∀ {q : List Nat}, SStp q → q.takeWhile isDg = [] := fun {q} hq => by
    cases q with
    | nil => rfl
    | cons c l =>
      rw [List.takeWhile_cons]
      rcases hq c l rfl with rfl | rfl | rfl <;> rfl
  have tw : ∀ {a q : List Nat}, (∀ c ∈ a, isDg c = true) → SStp q → (a ++ q).takeWhile isDg = a := fun {a q} h1 h2 => by
    induction a with
    | nil => exact nt h2
    | cons c a ih => rw [List.cons_append, List.takeWhile_cons, h1 c List.mem_cons_self, if_pos rfl, ih fun x hx => h1 x (List.mem_cons_of_mem _ hx)]
  have e := congrArg (List.takeWhile isDg) h
  rw [tw ha hr, tw hb hr'] at e
  subst e
  exact ⟨rfl, List.append_cancel_left h⟩
mutual
def pl : PyData → Bool
  | .none | .bool _ | .int _ => true
  | .list xs | .tuple xs => plA xs
  | _ => false
def plA : List PyData → Bool
  | [] => true
  | x :: xs => pl x && plA xs
end
/-- items, then what closes them -/
def itc : List PyData → List Nat → List Nat
  | [], E => E
  | [d], E => cd d.shown ++ E
  | d :: r, E => cd d.shown ++ 44 :: 32 :: itc r E
theorem itc2 {d x : PyData} {r : List PyData} {E : List Nat} : itc (d :: x :: r) E = cd d.shown ++ 44 :: 32 :: itc (x :: r) E := rfl
def Endr (E : List Nat) : Prop := (∃ r, E = 93 :: r) ∨ (∃ r, E = 41 :: r) ∨ ∃ r, E = 44 :: 41 :: r
theorem Endr.stp {E : List Nat} (h : Endr E) : SStp E := by
  rintro c l rfl
  rcases h with ⟨r, e⟩ | ⟨r, e⟩ | ⟨r, e⟩ <;> cases e <;> simp
theorem cd_list (xs : List PyData) (r : List Nat) : cd (PyData.list xs).shown ++ r = 91 :: itc xs (93 :: r) := by
  have go : ∀ (xs : List PyData) (k : Nat) (acc : Str), xs ≠ [] → cd (textFrom (k + 1) acc (PyData.shownAll xs)) ++ 93 :: r = cd acc ++ 44 :: 32 :: itc xs (93 :: r) := by
    intro xs
    induction xs with
    | nil => intro k acc h; exact absurd rfl h
    | cons d xs ih =>
      intro k acc _
      have e : textFrom (k + 1) acc (PyData.shownAll (d :: xs)) = textFrom (k + 1 + 1) (acc ++ ((", " : String) : Str) ++ d.shown) (PyData.shownAll xs) := rfl
      have e2 : cd (((", " : String) : Str)) = [44, 32] := by decide +kernel
      rw [e]
      cases xs with
      | nil =>
        show cd (acc ++ ((", " : String) : Str) ++ d.shown) ++ 93 :: r = _
        rw [cd_app, cd_app, e2]
        simp [itc]
      | cons x xs =>
        rw [ih (k + 1) _ (by simp), cd_app, cd_app, e2, itc2]
        simp
  have e1 : cd (("[" : String) : Str) = [91] := by decide +kernel
  have e2 : cd (("]" : String) : Str) = [93] := by decide +kernel
  show cd (textFrom 0 (("[" : String) : Str) (PyData.shownAll xs) ++ (("]" : String) : Str)) ++ r = _
  rw [cd_app, e2, List.append_assoc]
  cases xs with
  | nil =>
    show cd (("[" : String) : Str) ++ _ = _
    rw [e1]; rfl
  | cons d xs =>
    have e3 : textFrom 0 (("[" : String) : Str) (PyData.shownAll (d :: xs)) = textFrom 1 ((("[" : String) : Str) ++ (("" : String) : Str) ++ d.shown) (PyData.shownAll xs) := rfl
    have e4 : cd (("" : String) : Str) = [] := by decide +kernel
    rw [e3]
    cases xs with
    | nil =>
      show cd ((("[" : String) : Str) ++ (("" : String) : Str) ++ d.shown) ++ _ = _
      rw [cd_app, cd_app, e1, e4]; rfl
    | cons x xs =>
      rw [show [93] ++ r = 93 :: r from rfl, go (x :: xs) 0 _ (by simp), cd_app, cd_app, e1, e4, itc2]
      simp
def tailT (n : Nat) (r : List Nat) : List Nat := if n = 1 then 44 :: 41 :: r else 41 :: r
theorem cd_tup (xs : List PyData) (r : List Nat) : cd (PyData.tuple xs).shown ++ r = 40 :: itc xs (tailT xs.length r) := by
  have ln : ∀ xs : List PyData, (PyData.shownAll xs).length = xs.length := fun xs => by
    induction xs with
    | nil => rfl
    | cons d xs ih => show (PyData.shownAll xs).length + 1 = _; rw [ih]; rfl
  have e2 : cd (((", " : String) : Str)) = [44, 32] := by decide +kernel
  have go : ∀ (xs : List PyData) (E : List Nat), cd (Str.join ((", " : String) : Str) (PyData.shownAll xs)) ++ E = itc xs E := by
    intro xs
    induction xs with
    | nil => intro E; rfl
    | cons d xs ih =>
      intro E
      cases xs with
      | nil => rfl
      | cons x xs =>
        have e : Str.join ((", " : String) : Str) (PyData.shownAll (d :: x :: xs)) = d.shown ++ ((", " : String) : Str) ++ Str.join ((", " : String) : Str) (PyData.shownAll (x :: xs)) := rfl
        rw [e, cd_app, cd_app, e2, itc2, ← ih]
        simp
  have e1 : cd (("(" : String) : Str) = [40] := by decide +kernel
  have e3 : cd ((",)" : String) : Str) = [44, 41] := by decide +kernel
  have e4 : cd ((")" : String) : Str) = [41] := by decide +kernel
  show cd ((("(" : String) : Str) ++ Str.join ((", " : String) : Str) (PyData.shownAll xs) ++ (((if (PyData.shownAll xs).length == 1 then ",)" else ")" : String)) : Str)) ++ r = _
  rw [cd_app, cd_app, e1, ln]
  unfold tailT
  by_cases h : xs.length = 1
  · rw [h]
    show [40] ++ cd _ ++ cd ((",)" : String) : Str) ++ r = _
    rw [e3, if_pos rfl, ← go]
    simp
  · rw [if_neg h, if_neg (by simpa using h), e4, ← go]
    simp
theorem tailT_end (n : Nat) (r : List Nat) : Endr (tailT n r) := by
  unfold tailT
  split
  · exact .inr (.inr ⟨_, rfl⟩)
  · exact .inr (.inl ⟨_, rfl⟩)
theorem tailT_inj {n : Nat} {r r' : List Nat} (h : tailT n r = tailT n r') : r = r' := by
  unfold tailT at h
  split at h <;> cases h <;> rfl
theorem stp_cons {c : Nat} {l : List Nat} (h : c = 44 ∨ c = 41 ∨ c = 93) : SStp (c :: l) := by
  intro c' l' e; cases e; exact h
/-- the first sign tells the kind -/
def fstK : PyData → List Nat
  | .none => [78]
  | .bool true => [84]
  | .bool false => [70]
  | .int i => if 0 ≤ i then [48, 49, 50, 51, 52, 53, 54, 55, 56, 57] else [45]
  | .list _ => [91]
  | .tuple _ => [40]
  | _ => []
theorem fst_n {c : Nat} : c ∈ fstK .none ↔ c = 78 := by simp [fstK]
theorem fst_t {c : Nat} : c ∈ fstK (.bool true) ↔ c = 84 := by simp [fstK]
theorem fst_f {c : Nat} : c ∈ fstK (.bool false) ↔ c = 70 := by simp [fstK]
theorem fst_l {c : Nat} {xs} : c ∈ fstK (.list xs) ↔ c = 91 := by simp [fstK]
theorem fst_tu {c : Nat} {xs} : c ∈ fstK (.tuple xs) ↔ c = 40 := by simp [fstK]
theorem fst_nat {c m : Nat} : c ∈ fstK (.int (Int.ofNat m)) ↔ 48 ≤ c ∧ c ≤ 57 := by
  show c ∈ (if 0 ≤ Int.ofNat m then [48, 49, 50, 51, 52, 53, 54, 55, 56, 57] else [45]) ↔ _
  rw [if_pos (show 0 ≤ Int.ofNat m from Int.natCast_nonneg m)]
  simp only [List.mem_cons, List.not_mem_nil, or_false]
  omega
theorem fst_neg {c m : Nat} : c ∈ fstK (.int (Int.negSucc m)) ↔ c = 45 := by
  show c ∈ (if 0 ≤ Int.negSucc m then [48, 49, 50, 51, 52, 53, 54, 55, 56, 57] else [45]) ↔ _
  rw [if_neg (by intro h; cases h)]
  simp
theorem fst_int {c : Nat} {i : Int} (h : c ∈ fstK (.int i)) : c = 45 ∨ (48 ≤ c ∧ c ≤ 57) := by
  cases i with
  | ofNat m => exact .inr (fst_nat.mp h)
  | negSucc m => exact .inl (fst_neg.mp h)
theorem cd_first {d : PyData} (h : pl d = true) (r : List Nat) : ∃ c l, cd d.shown ++ r = c :: l ∧ c ∈ fstK d := by
  cases d with
  | none => exact ⟨78, _, rfl, by simp [fstK]⟩
  | bool b =>
    cases b with
    | false => exact ⟨70, _, rfl, by simp [fstK]⟩
    | true => exact ⟨84, _, rfl, by simp [fstK]⟩
  | int i =>
    show ∃ c l, cd (Str.ofString (toString i)) ++ r = c :: l ∧ _
    cases i with
    | ofNat m =>
      have e : cd (Str.ofString (toString (Int.ofNat m))) = decD m := cd_nat m
      rw [e]
      cases q : decD m with
      | nil => exact absurd q (decD_ne m)
      | cons c l =>
        refine ⟨c, _, rfl, ?_⟩
        have := decD_dg m c (by rw [q]; simp)
        unfold isDg at this
        simp only [Bool.and_eq_true, decide_eq_true_eq] at this
        exact fst_nat.mpr this
    | negSucc m =>
      rw [cd_neg]
      exact ⟨45, _, rfl, fst_neg.mpr rfl⟩
  | list xs => exact ⟨91, _, cd_list xs r, by simp [fstK]⟩
  | tuple xs => exact ⟨40, _, cd_tup xs r, by simp [fstK]⟩
  | str _ => cases h
  | dict _ => cases h
mutual
theorem shown_u : ∀ (d d' : PyData) (r r' : List Nat), pl d = true → pl d' = true → SStp r → SStp r' → cd d.shown ++ r = cd d'.shown ++ r' → d = d' ∧ r = r' := by
  intro d d' r r' hp hp' hr hr' h
  obtain ⟨c, l, e1, e2⟩ := cd_first hp r
  obtain ⟨c', l', e1', e2'⟩ := cd_first hp' r'
  have hc : c = c' := by rw [e1, e1'] at h; exact (List.cons.inj h).1
  subst hc
  match d, d', hp, hp', h, e2, e2' with
  | .none, .none, _, _, h, _, _ => exact ⟨rfl, List.append_cancel_left h⟩
  | .bool true, .bool true, _, _, h, _, _ => exact ⟨rfl, List.append_cancel_left h⟩
  | .bool false, .bool false, _, _, h, _, _ => exact ⟨rfl, List.append_cancel_left h⟩
  | .int i, .int j, _, _, h, e2, e2' =>
    have h : cd (Str.ofString (toString i)) ++ r = cd (Str.ofString (toString j)) ++ r' := h
    cases i with
    | ofNat m => cases j with
      | ofNat k =>
        have a : cd (Str.ofString (toString (Int.ofNat m))) = decD m := cd_nat m
        have b : cd (Str.ofString (toString (Int.ofNat k))) = decD k := cd_nat k
        rw [a, b] at h
        obtain ⟨h1, h2⟩ := dig_split (decD_dg m) (decD_dg k) hr hr' h
        exact ⟨by rw [decD_inj h1], h2⟩
      | negSucc k =>
        exfalso
        have := fst_nat.mp e2
        have := fst_neg.mp e2'
        omega
    | negSucc m => cases j with
      | ofNat k =>
        exfalso
        have := fst_neg.mp e2
        have := fst_nat.mp e2'
        omega
      | negSucc k =>
        rw [cd_neg, cd_neg] at h
        obtain ⟨h1, h2⟩ := dig_split (decD_dg _) (decD_dg _) hr hr' (List.cons.inj h).2
        have := decD_inj h1
        have : m = k := by omega
        exact ⟨by rw [this], h2⟩
  | .list xs, .list ys, hp, hp', h, _, _ =>
    rw [cd_list, cd_list] at h
    obtain ⟨h1, h2⟩ := shown_uA xs ys _ _ hp hp' (.inl ⟨_, rfl⟩) (.inl ⟨_, rfl⟩) (List.cons.inj h).2
    exact ⟨by rw [h1], (List.cons.inj h2).2⟩
  | .tuple xs, .tuple ys, hp, hp', h, _, _ =>
    rw [cd_tup, cd_tup] at h
    obtain ⟨h1, h2⟩ := shown_uA xs ys _ _ hp hp' (tailT_end _ _) (tailT_end _ _) (List.cons.inj h).2
    subst h1
    exact ⟨rfl, tailT_inj h2⟩
  | .none, .bool true, _, _, _, e2, e2' | .none, .bool false, _, _, _, e2, e2' | .bool true, .none, _, _, _, e2, e2' | .bool false, .none, _, _, _, e2, e2' | .bool true, .bool false, _, _, _, e2, e2' | .bool false, .bool true, _, _, _, e2, e2' => simp only [fst_n, fst_t, fst_f, fst_l, fst_tu] at e2 e2'; omega
  | .none, .list _, _, _, _, e2, e2' | .none, .tuple _, _, _, _, e2, e2' | .list _, .none, _, _, _, e2, e2' | .tuple _, .none, _, _, _, e2, e2' | .list _, .tuple _, _, _, _, e2, e2' | .tuple _, .list _, _, _, _, e2, e2' => simp only [fst_n, fst_t, fst_f, fst_l, fst_tu] at e2 e2'; omega
  | .bool true, .list _, _, _, _, e2, e2' | .bool true, .tuple _, _, _, _, e2, e2' | .list _, .bool true, _, _, _, e2, e2' | .tuple _, .bool true, _, _, _, e2, e2' => simp only [fst_n, fst_t, fst_f, fst_l, fst_tu] at e2 e2'; omega
  | .bool false, .list _, _, _, _, e2, e2' | .bool false, .tuple _, _, _, _, e2, e2' | .list _, .bool false, _, _, _, e2, e2' | .tuple _, .bool false, _, _, _, e2, e2' => simp only [fst_n, fst_t, fst_f, fst_l, fst_tu] at e2 e2'; omega
  | .int i, .none, _, _, _, e2, e2' | .int i, .bool true, _, _, _, e2, e2' | .int i, .bool false, _, _, _, e2, e2' | .int i, .list _, _, _, _, e2, e2' | .int i, .tuple _, _, _, _, e2, e2' => have := fst_int e2; simp only [fst_n, fst_t, fst_f, fst_l, fst_tu] at e2'; omega
  | .none, .int i, _, _, _, e2, e2' | .bool true, .int i, _, _, _, e2, e2' | .bool false, .int i, _, _, _, e2, e2' | .list _, .int i, _, _, _, e2, e2' | .tuple _, .int i, _, _, _, e2, e2' => have := fst_int e2'; simp only [fst_n, fst_t, fst_f, fst_l, fst_tu] at e2; omega
theorem shown_uA : ∀ (ds ds' : List PyData) (E E' : List Nat), plA ds = true → plA ds' = true → Endr E → Endr E' → itc ds E = itc ds' E' → ds = ds' ∧ E = E' := by
  intro ds ds' E E' hp hp' hE hE' h
  have nf : ∀ {d : PyData} {E q : List Nat}, pl d = true → Endr E → E ≠ cd d.shown ++ q := fun {d E q} h1 h2 h3 => by
    obtain ⟨c, l, e1, e2⟩ := cd_first h1 q
    rw [e1] at h3
    have hc : c = 93 ∨ c = 41 ∨ c = 44 := by
      rcases h2 with ⟨r, e⟩ | ⟨r, e⟩ | ⟨r, e⟩ <;> rw [e] at h3 <;> cases h3 <;> simp
    cases d with
    | bool b => cases b <;> simp [fstK] at e2 <;> omega
    | int i => have := fst_int e2; omega
    | none => simp [fstK] at e2; omega
    | list _ => simp [fstK] at e2; omega
    | tuple _ => simp [fstK] at e2; omega
    | str _ => cases h1
    | dict _ => cases h1
  have n44 : ∀ {E q : List Nat}, Endr E → E ≠ 44 :: 32 :: q := fun {E q} h1 h2 => by
    rcases h1 with ⟨r, e⟩ | ⟨r, e⟩ | ⟨r, e⟩ <;> rw [e] at h2 <;> cases h2
  match ds, ds', hp, hp', h with
  | [], [], _, _, h => exact ⟨rfl, h⟩
  | [], [d], _, hp', h => exact absurd h (nf (Bool.and_eq_true_iff.mp hp').1 hE)
  | [], d :: x :: r, _, hp', h => exact absurd h (nf (Bool.and_eq_true_iff.mp hp').1 hE)
  | [d], [], hp, _, h => exact absurd h.symm (nf (Bool.and_eq_true_iff.mp hp).1 hE')
  | d :: x :: r, [], hp, _, h => exact absurd h.symm (nf (Bool.and_eq_true_iff.mp hp).1 hE')
  | [d], [d'], hp, hp', h =>
    obtain ⟨h1, h2⟩ := shown_u d d' E E' (Bool.and_eq_true_iff.mp hp).1 (Bool.and_eq_true_iff.mp hp').1 hE.stp hE'.stp h
    exact ⟨by rw [h1], h2⟩
  | [d], d' :: x :: r, hp, hp', h =>
    obtain ⟨h1, h2⟩ := shown_u d d' E _ (Bool.and_eq_true_iff.mp hp).1 (Bool.and_eq_true_iff.mp hp').1 hE.stp (stp_cons (.inl rfl)) h
    exact absurd h2 (n44 hE)
  | d :: x :: r, [d'], hp, hp', h =>
    obtain ⟨h1, h2⟩ := shown_u d d' _ E' (Bool.and_eq_true_iff.mp hp).1 (Bool.and_eq_true_iff.mp hp').1 (stp_cons (.inl rfl)) hE'.stp h
    exact absurd h2.symm (n44 hE')
  | d :: x :: r, d' :: y :: q, hp, hp', h =>
    obtain ⟨h1, h2⟩ := shown_u d d' _ _ (Bool.and_eq_true_iff.mp hp).1 (Bool.and_eq_true_iff.mp hp').1 (stp_cons (.inl rfl)) (stp_cons (.inl rfl)) h
    obtain ⟨h3, h4⟩ := shown_uA (x :: r) (y :: q) E E' (Bool.and_eq_true_iff.mp hp).2 (Bool.and_eq_true_iff.mp hp').2 hE hE' (List.cons.inj (List.cons.inj h2).2).2
    exact ⟨by rw [h1, h3], h4⟩
end
/-! ### data fit to be compared -/
def Ni (n : Nat) (d : PyData) : Prop := d.canLay0 = true ∧ d.depth ≤ n
theorem ni_all {n : Nat} : ∀ {ds : List PyData}, (∀ d ∈ ds, Ni n d) → PyData.canLayAll0 ds = true ∧ PyData.depthAll ds ≤ n
  | [], _ => ⟨by simp only [PyData.canLayAll0], by simp only [PyData.depthAll]; omega⟩
  | d :: r, h => by
    obtain ⟨h1, h2⟩ := h d List.mem_cons_self
    obtain ⟨h3, h4⟩ := ni_all (ds := r) fun x hx => h x (List.mem_cons_of_mem _ hx)
    exact ⟨by simp only [PyData.canLayAll0, h1, h3, Bool.and_self], by simp only [PyData.depthAll]; omega⟩
theorem ni_tup {n : Nat} {ds : List PyData} (h : ∀ d ∈ ds, Ni n d) : Ni (n + 1) (.tuple ds) := by
  obtain ⟨h1, h2⟩ := ni_all h
  exact ⟨by simp only [PyData.canLay0, h1], by simp only [PyData.depth]; omega⟩
theorem ni_lst {n : Nat} {ds : List PyData} (h : ∀ d ∈ ds, Ni n d) : Ni (n + 1) (.list ds) := by
  obtain ⟨h1, h2⟩ := ni_all h
  exact ⟨by simp only [PyData.canLay0, h1], by simp only [PyData.depth]; omega⟩
theorem Ni.up {m n : Nat} {d : PyData} (h : Ni m d) (hm : m ≤ n) : Ni n d := ⟨h.1, Nat.le_trans h.2 hm⟩
theorem Ni.shaped {n : Nat} {d : PyData} (h : Ni n d) (hn : n ≤ 64 := by decide) : SeqAt.shaped d = true := by
  rw [shaped_ap, h.1]; simp; exact Nat.le_trans h.2 hn
theorem ni_i {i : Int} : Ni 0 (.int i) := ⟨by simp, by simp⟩
theorem ni_ints {w : List Int} : ∀ d ∈ w.map PyData.int, Ni 0 d := fun d hd => by
  obtain ⟨i, _, rfl⟩ := List.mem_map.mp hd; exact ni_i
theorem eqD_ni {m n : Nat} {d d' : PyData} (h : Ni m d) (h' : Ni n d') (hm : m ≤ 64) (hn : n ≤ 64) : eqD d d' = some (.bool (PyData.eqv d d')) := by
  unfold eqD; rw [eqB_typed (h.shaped hm) (h'.shaped hn)]; rfl
theorem neD_ni {m n : Nat} {d d' : PyData} (h : Ni m d) (h' : Ni n d') (hm : m ≤ 64) (hn : n ≤ 64) : neD d d' = some (.bool !(PyData.eqv d d')) := by
  unfold neD; rw [eqB_typed (h.shaped hm) (h'.shaped hn)]; rfl
theorem ni_nil : Ni 1 (.tuple []) := ni_tup (n := 0) fun _ h => nomatch h
theorem eq_nilT {n : Nat} {ds : List PyData} (h : Ni n (.tuple ds)) (hn : n ≤ 64) : eqD (.tuple ds) (.tuple []) = some (.bool ds.isEmpty) := by
  rw [eqD_ni h ni_nil hn (by decide)]
  cases ds <;> simp [PyData.eqv, PyData.eqvAll]
theorem ne_nilT {n : Nat} {ds : List PyData} (h : Ni n (.tuple ds)) (hn : n ≤ 64) : neD (.tuple ds) (.tuple []) = some (.bool !ds.isEmpty) := by
  rw [neD_ni h ni_nil hn (by decide)]
  cases ds <;> simp [PyData.eqv, PyData.eqvAll]
theorem ni_nilL : Ni 1 (.list []) := ni_lst (n := 0) fun _ h => nomatch h
theorem ne_nilL {n : Nat} {ds : List PyData} (h : Ni n (.list ds)) (hn : n ≤ 64) : neD (.list ds) (.list []) = some (.bool !ds.isEmpty) := by
  rw [neD_ni h ni_nilL hn (by decide)]
  cases ds <;> simp [PyData.eqv, PyData.eqvAll]
theorem shown_inj {d d' : PyData} (h : pl d = true) (h' : pl d' = true) (e : d.shown = d'.shown) : d = d' :=
  (shown_u d d' [] [] h h' (fun _ _ e => nomatch e) (fun _ _ e => nomatch e) (by rw [e])).1
end DL

/-! TYS: plain facts about the typed words -/
namespace DL
open PySem PySem.Spec PyProof.Rows L2
section
variable {α β γ σ ρ : Type}
@[simp] theorem thn2_ap {a : Src → Option (α × Src)} {f : α → Src → Option (β × Src)} {s : Src} : thn2 a f s = (a s).bind fun p => f p.1 p.2 := rfl
@[simp] theorem lif_ap {t : Option α} {s : Src} : lif t s = t.map fun v => (v, s) := rfl
theorem atN {l : List α} {k : Nat} : atI l (k : Int) = l[k]? := by
  by_cases h : k < l.length
  · rw [List.getElem?_eq_getElem h]; exact atI_nat (List.getElem?_eq_getElem h)
  · rw [List.getElem?_eq_none (by omega)]
    cases q : atI l (k : Int) with
    | none => rfl
    | some v =>
      obtain ⟨j, _, h2, h3, h4, h5⟩ := atI_get q
      exfalso
      omega
theorem atN1 {l : List α} {k : Nat} : atI l ((k : Int) + 1) = l[k + 1]? := atN (k := k + 1)
theorem atN2 {l : List α} {k : Nat} : atI l ((k : Int) + 2) = l[k + 2]? := atN (k := k + 2)
theorem atN3 {l : List α} {k : Nat} : atI l ((k : Int) + 3) = l[k + 3]? := atN (k := k + 3)
theorem at0 {l : List α} : atI l 0 = l[0]? := atN (k := 0)
theorem at1 {l : List α} : atI l 1 = l[1]? := atN (k := 1)
theorem at2 {l : List α} : atI l 2 = l[2]? := atN (k := 2)
theorem at3 {l : List α} : atI l 3 = l[3]? := atN (k := 3)
theorem atI_of {l : List α} {i : Int} (h : 0 ≤ i) : atI l i = l[i.toNat]? := by
  have : i = ((i.toNat : Nat) : Int) := by omega
  rw [this, atN]; rfl
theorem atLast {l : List α} (h : l ≠ []) : atI l (-1) = some (l.getLast h) := by
  have := atI_last l.dropLast (l.getLast h)
  rwa [List.dropLast_concat_getLast] at this
theorem cutN_to {l : List α} {k : Nat} : cutT l none (some (k : Int)) = l.take k := by
  unfold cutT
  have h : HT.sIx l.length l.length (some (k : Int)) = min k l.length := HT.sIx_nat _ _ _
  rw [h]
  show ((l.drop 0).take (min k l.length - 0)) = _
  rw [List.drop_zero, Nat.sub_zero]
  by_cases hk : k ≤ l.length
  · rw [Nat.min_eq_left hk]
  · rw [Nat.min_eq_right (by omega), List.take_length, List.take_of_length_le (by omega)]
theorem cutN_from {l : List α} {k : Nat} : cutT l (some (k : Int)) none = l.drop k := by
  unfold cutT
  have h : HT.sIx l.length 0 (some (k : Int)) = min k l.length := HT.sIx_nat _ _ _
  rw [h]
  show (l.drop (min k l.length)).take (l.length - min k l.length) = _
  rw [List.take_of_length_le (by rw [List.length_drop]; omega)]
  by_cases hk : k ≤ l.length
  · rw [Nat.min_eq_left hk]
  · rw [Nat.min_eq_right (by omega), List.drop_length, List.drop_eq_nil_of_le (by omega)]
theorem cutN_from1 {l : List α} {k : Nat} : cutT l (some ((k : Int) + 1)) none = l.drop (k + 1) := cutN_from (k := k + 1)
theorem cutN_from2 {l : List α} {k : Nat} : cutT l (some ((k : Int) + 2)) none = l.drop (k + 2) := cutN_from (k := k + 2)
theorem cutN_from3 {l : List α} {k : Nat} : cutT l (some ((k : Int) + 3)) none = l.drop (k + 3) := cutN_from (k := k + 3)
theorem cutN_to1 {l : List α} {k : Nat} : cutT l none (some ((k : Int) + 1)) = l.take (k + 1) := cutN_to (k := k + 1)
theorem cutF1 {l : List α} : cutT l (some 1) none = l.drop 1 := cutN_from (k := 1)
theorem cutF2 {l : List α} : cutT l (some 2) none = l.drop 2 := cutN_from (k := 2)
theorem cutF3 {l : List α} : cutT l (some 3) none = l.drop 3 := cutN_from (k := 3)
theorem cutTo1 {l : List α} : cutT l none (some 1) = l.take 1 := cutN_to (k := 1)
theorem cutTo2 {l : List α} : cutT l none (some 2) = l.take 2 := cutN_to (k := 2)
theorem cutTo3 {l : List α} : cutT l none (some 3) = l.take 3 := cutN_to (k := 3)
theorem cut_toI {l : List α} {k : Int} (h : 0 ≤ k) : cutT l none (some k) = l.take k.toNat := by
  have : k = ((k.toNat : Nat) : Int) := by omega
  rw [this, cutN_to]; rfl
theorem cut_fromI {l : List α} {k : Int} (h : 0 ≤ k) : cutT l (some k) none = l.drop k.toNat := by
  have : k = ((k.toNat : Nat) : Int) := by omega
  rw [this, cutN_from]; rfl
theorem cut_neg_to {l : List α} {k : Nat} (hk : 0 < k) : cutT l none (some (-(k : Int))) = l.take (l.length - k) := by
  unfold cutT
  have h : HT.sIx l.length l.length (some (-(k : Int))) = l.length - k := by
    show (if -(k : Int) < 0 then (-(k : Int) + (l.length : Int)).toNat else _) = _
    rw [if_pos (by omega)]; omega
  rw [h]
  show ((l.drop 0).take (l.length - k - 0)) = _
  rw [List.drop_zero, Nat.sub_zero]
theorem cut_neg_from {l : List α} {k : Nat} (hk : 0 < k) : cutT l (some (-(k : Int))) none = l.drop (l.length - k) := by
  unfold cutT
  have h : HT.sIx l.length 0 (some (-(k : Int))) = l.length - k := by
    show (if -(k : Int) < 0 then (-(k : Int) + (l.length : Int)).toNat else _) = _
    rw [if_pos (by omega)]; omega
  rw [h]
  show (l.drop (l.length - k)).take (l.length - (l.length - k)) = _
  rw [List.take_of_length_le (by rw [List.length_drop]; omega)]
theorem cut_m1 {l : List α} : cutT l none (some (-1)) = l.take (l.length - 1) := cut_neg_to (k := 1) (by omega)
theorem cut_m2 {l : List α} : cutT l none (some (-2)) = l.take (l.length - 2) := cut_neg_to (k := 2) (by omega)
theorem cut_f1 {l : List α} : cutT l (some (-1)) none = l.drop (l.length - 1) := cut_neg_from (k := 1) (by omega)
theorem cut_f3 {l : List α} : cutT l (some (-3)) none = l.drop (l.length - 3) := cut_neg_from (k := 3) (by omega)
theorem catT_ok {a b : List α} (h : a.length + b.length ≤ 1000000) : catT a b = some (a ++ b) := by
  unfold catT; rw [if_pos (by rw [sizeLine_eq]; omega)]
theorem rng1_ok {n : Nat} (h : n ≤ 1000000) : rng1T (n : Int) = some ((List.range n).map fun k : Nat => (k : Int)) := by
  unfold rng1T
  rw [if_pos (by unfold rng62; simp only [Bool.and_eq_true, decide_eq_true_eq]; constructor <;> omega)]
  unfold rngT
  simp
theorem rng1_of {i : Int} {n : Nat} (h : n ≤ 1000000) (e : i.toNat = n) (hi : i.natAbs ≤ 1000000) : rng1T i = some ((List.range n).map fun k : Nat => (k : Int)) := by
  unfold rng1T
  rw [if_pos (by unfold rng62; simp only [Bool.and_eq_true, decide_eq_true_eq]; constructor <;> omega)]
  unfold rngT
  subst e
  simp
theorem rng2_of {i j : Int} {n : Nat} (h : n ≤ 1000000) (e : (j - i).toNat = n) (hi : i.natAbs ≤ 1000000) (hj : j.natAbs ≤ 1000000) : rng2T i j = some ((List.range n).map fun k : Nat => i + (k : Int)) := by
  unfold rng2T
  rw [if_pos (by unfold rng62; simp only [Bool.and_eq_true, decide_eq_true_eq]; constructor <;> constructor <;> omega)]
  unfold rngT
  subst e
  rfl
theorem mulT_ok {a b : Int} (h : mulOk a b = true) : mulT a b = some (a * b) := if_pos h
theorem mulT_l {a b : Int} (h : a.natAbs < 2 ^ 64) : mulT a b = some (a * b) := mulT_ok (mulOk_l h)
theorem mulT_r {a b : Int} (h : b.natAbs < 2 ^ 64) : mulT a b = some (a * b) := mulT_ok (mulOk_r h)
theorem fdivT_ok {a b : Int} (h : 0 < b) (h2 : b < 1073741824) : fdivT a b = some (a.fdiv b) := if_pos ⟨by omega, by omega⟩
theorem modT_ok {a b : Int} (h : b ≠ 0) : modT a b = some (a.fmod b) := if_pos h
theorem zipT_ok {a : List α} {b : List β} (h : a.length = b.length) : zipT a b = some (a.zip b) := if_pos h
theorem compT_map {p : β → Option Bool} {f : β → Option γ} {g : α → β} : ∀ {xs : List α}, compT p f (xs.map g) = compT (fun x => p (g x)) (fun x => f (g x)) xs
  | [] => rfl
  | x :: r => by rw [List.map_cons]; unfold compT; rw [compT_map (xs := r)]
theorem compG_mapL {p : β → Option Bool} {f : β → Option γ} {g : α → β} {xs : List α} : compG p f (xs.map g) = compG (fun x => p (g x)) (fun x => f (g x)) xs := by
  unfold compG; rw [List.length_map, compT_map]
theorem forP_mapL {f : σ → β → Option σ} {g : α → β} : ∀ {xs : List α} {s : σ}, forP f (xs.map g) s = forP (fun s x => f s (g x)) xs s
  | [], s => rfl
  | x :: r, s => by
    rw [List.map_cons]; unfold forP
    cases f s (g x) with
    | none => rfl
    | some s' => exact forP_mapL (xs := r)
theorem forC_mapL {f : σ → β → Option (Ctl ρ σ)} {g : α → β} : ∀ {xs : List α} {s : σ}, forC f (xs.map g) s = forC (fun s x => f s (g x)) xs s
  | [], s => rfl
  | x :: r, s => by
    rw [List.map_cons]; unfold forC
    cases f s (g x) with
    | none => rfl
    | some c => cases c <;> simp only [Option.bind_some] <;> exact forC_mapL (xs := r)
@[simp] theorem forP_nil {f : σ → α → Option σ} {s : σ} : forP f [] s = some s := rfl
theorem forP_cons {f : σ → α → Option σ} {x : α} {r : List α} {s : σ} : forP f (x :: r) s = (f s x).bind (forP f r) := rfl
/-- a loop by an invariant of its turns -/
theorem forP_inv {f : σ → α → Option σ} (P : Nat → σ → Prop) : ∀ {xs : List α} {s : σ} {k : Nat}, P k s → (∀ j x s, xs[j]? = some x → P (k + j) s → ∃ s', f s x = some s' ∧ P (k + j + 1) s') → ∃ s', forP f xs s = some s' ∧ P (k + xs.length) s'
  | [], s, k, h, _ => ⟨s, rfl, h⟩
  | x :: r, s, k, h, hs => by
    obtain ⟨s1, h1, h2⟩ := hs 0 x s rfl h
    obtain ⟨s2, h3, h4⟩ := forP_inv (xs := r) P h2 fun j y s hj hp => by
      have := hs (j + 1) y s (by simpa using hj) (by rw [show k + (j + 1) = k + 0 + 1 + j by omega]; exact hp)
      rw [show k + (j + 1) + 1 = k + 0 + 1 + j + 1 by omega] at this
      exact this
    exact ⟨s2, by rw [forP_cons, h1]; exact h3, by rw [show k + (x :: r).length = k + 0 + 1 + r.length by simp; omega]; exact h4⟩
/-- .. that does not count -/
theorem forP_keep {f : σ → α → Option σ} (P : σ → Prop) {xs : List α} {s : σ} (h : P s) (hs : ∀ x ∈ xs, ∀ s, P s → ∃ s', f s x = some s' ∧ P s') : ∃ s', forP f xs s = some s' ∧ P s' := by
  obtain ⟨s', h1, h2⟩ := forP_inv (fun _ s => P s) (k := 0) h fun j x s hx hp => hs x (List.mem_of_getElem? hx) s hp
  exact ⟨s', h1, h2⟩
theorem forP_fold {f : σ → α → Option σ} (g : σ → α → σ) : ∀ {xs : List α} {s : σ}, (∀ x ∈ xs, ∀ s, f s x = some (g s x)) → forP f xs s = some (xs.foldl g s)
  | [], s, _ => rfl
  | x :: r, s, h => by rw [forP_cons, h x List.mem_cons_self, Option.bind_some, forP_fold g fun y hy s => h y (List.mem_cons_of_mem _ hy) s]; rfl
theorem forC_keep {f : σ → α → Option (Ctl ρ σ)} (P : σ → Prop) : ∀ {xs : List α} {s : σ}, P s → (∀ x ∈ xs, ∀ s, P s → ∃ s', (f s x = some (.nx s') ∨ f s x = some (.ct s')) ∧ P s') → ∃ s', forC f xs s = some (.nx s') ∧ P s'
  | [], s, h, _ => ⟨s, rfl, h⟩
  | x :: r, s, h, hs => by
    obtain ⟨s1, h1, h2⟩ := hs x List.mem_cons_self s h
    obtain ⟨s2, h3, h4⟩ := forC_keep (xs := r) P h2 fun y hy s hp => hs y (List.mem_cons_of_mem _ hy) s hp
    refine ⟨s2, ?_, h4⟩
    rcases h1 with h1 | h1 <;> (unfold forC; rw [h1]; exact h3)
theorem forC_unit {f : Unit → α → Option (Ctl ρ Unit)} {xs : List α} (h : ∀ x ∈ xs, f () x = some (.nx ()) ∨ f () x = some (.ct ())) : forC f xs () = some (.nx ()) := by
  obtain ⟨s, h1, _⟩ := forC_keep (f := f) (fun _ => True) (xs := xs) (s := ()) trivial fun x hx s _ => ⟨(), h x hx, trivial⟩
  exact h1
/-- the first that leaves -/
theorem forC_first {f : Unit → α → Option (Ctl ρ Unit)} (p : α → Bool) (v : ρ) : ∀ {xs : List α}, (∀ x ∈ xs, f () x = if p x = true then some (.nx ()) else some (.rt v)) → forC f xs () = if xs.all p = true then some (.nx ()) else some (.rt v)
  | [], _ => rfl
  | x :: r, h => by
    unfold forC
    rw [h x List.mem_cons_self]
    cases q : p x with
    | true =>
      rw [if_pos rfl, Option.bind_some]
      dsimp only
      rw [forC_first p v fun y hy => h y (List.mem_cons_of_mem _ hy), List.all_cons, q, Bool.true_and]
    | false => simp [q]
@[simp] theorem ctlK_nx {τ : Type} {k : ρ → τ} {kb kc T : σ → Option τ} {s : σ} : ctlK k kb kc T (.nx s) = T s := rfl
@[simp] theorem ctlK_rt {τ : Type} {k : ρ → τ} {kb kc T : σ → Option τ} {v : ρ} : ctlK k kb kc T (.rt v) = some (k v) := rfl
/-- a loop that appends what passes -/
theorem forP_app {f : List β → α → Option (List β)} (p : α → Bool) (g : α → β) {xs : List α} {l : List β} (hl : l.length + xs.length ≤ 1000000) (h : ∀ x ∈ xs, ∀ l, f l x = if p x = true then appT l (g x) else some l) : forP f xs l = some (l ++ (xs.filter p).map g) := by
  induction xs generalizing l with
  | nil => simp
  | cons x r ih =>
    rw [List.length_cons] at hl
    rw [forP_cons, h x List.mem_cons_self]
    cases q : p x with
    | true =>
      rw [if_pos rfl, appT_ok (by omega), Option.bind_some, ih (by simp; omega) fun y hy l => h y (List.mem_cons_of_mem _ hy) l, List.filter_cons_of_pos q]
      simp
    | false => rw [if_neg (by decide), Option.bind_some, ih (by omega) fun y hy l => h y (List.mem_cons_of_mem _ hy) l, List.filter_cons_of_neg (by simp [q])]
/-- drawn lists -/
theorem compGS_ex {f : α → Src → Option (β × Src)} (P : α → β → Prop) {xs : List α} (hl : xs.length ≤ 1000000) (h : ∀ x ∈ xs, ∀ s, ∃ v s', f x s = some (v, s') ∧ P x v) (s : Src) : ∃ vs s', compGS (fun _ s_ => some (true, s_)) f xs s = some (vs, s') ∧ vs.length = xs.length ∧ ∀ (i : Nat) x v, xs[i]? = some x → vs[i]? = some v → P x v := by
  unfold compGS
  rw [if_pos hl]
  clear hl
  induction xs generalizing s with
  | nil => exact ⟨[], s, rfl, rfl, fun i x v e => by simp at e⟩
  | cons x r ih =>
    obtain ⟨v, s1, h1, h2⟩ := h x List.mem_cons_self s
    obtain ⟨vs, s2, h3, h4, h5⟩ := ih (fun y hy s => h y (List.mem_cons_of_mem _ hy) s) s1
    refine ⟨v :: vs, s2, ?_, by simp [h4], fun i y w e1 e2 => ?_⟩
    · unfold compS
      simp only [Option.bind_some, if_pos]
      rw [h1, Option.bind_some]
      rw [h3]
      rfl
    · cases i with
      | zero => simp at e1 e2; subst e1; subst e2; exact h2
      | succ i => exact h5 i y w (by simpa using e1) (by simpa using e2)
theorem compGS_mem {f : α → Src → Option (β × Src)} (P : β → Prop) {xs : List α} (hl : xs.length ≤ 1000000) (h : ∀ x ∈ xs, ∀ s, ∃ v s', f x s = some (v, s') ∧ P v) (s : Src) : ∃ vs s', compGS (fun _ s_ => some (true, s_)) f xs s = some (vs, s') ∧ vs.length = xs.length ∧ ∀ v ∈ vs, P v := by
  obtain ⟨vs, s', h1, h2, h3⟩ := compGS_ex (fun _ v => P v) hl h s
  refine ⟨vs, s', h1, h2, fun v hv => ?_⟩
  obtain ⟨i, hi⟩ := List.mem_iff_getElem?.mp hv
  have hi' : i < xs.length := by rw [← h2]; exact (List.getElem?_eq_some_iff.mp hi).1
  exact h3 i _ v (List.getElem?_eq_getElem hi') hi
theorem reprT_ok {d : PyData} (h : reprOk d = true) : reprT d = some d.shown := if_pos h
theorem reprT_b {b : Bool} : reprT (.bool b) = some (PyData.bool b).shown := reprT_ok (reprOk_of (by cases b <;> rfl) (by cases b <;> decide) (by simp))
end
end DL

/-! TYV: what fits a repr: sizes by bounds. -/
namespace DL
open PySem PySem.Spec PyProof.Rows L2
structure Rp (n k : Nat) (d : PyData) : Prop where
  ok : okD d = true
  sz : sz d ≤ n
  dep : d.depth ≤ k
theorem Rp.up {n k n' k' : Nat} {d : PyData} (h : Rp n k d) (hn : n ≤ n') (hk : k ≤ k') : Rp n' k' d := ⟨h.ok, Nat.le_trans h.sz hn, Nat.le_trans h.dep hk⟩
theorem Rp.repr {n k : Nat} {d : PyData} (h : Rp n k d) (hn : n ≤ 16777216 := by omega) (hk : k ≤ 60 := by omega) : reprOk d = true := reprOk_of h.ok (Nat.le_trans h.sz hn) (Nat.le_trans h.dep hk)
theorem Rp.shows {n k : Nat} {d : PyData} (h : Rp n k d) (hn : n ≤ 16777216 := by omega) (hk : k ≤ 60 := by omega) : reprT d = some d.shown := reprT_ok (h.repr hn hk)
theorem rp_all {n k : Nat} : ∀ {ds : List PyData}, (∀ d ∈ ds, Rp n k d) → okA ds = true ∧ szA ds ≤ ds.length * (n + 2) ∧ PyData.depthAll ds ≤ k
  | [], _ => ⟨by simp, by simp, by simp⟩
  | d :: ds, h => by
    obtain ⟨a, b, c⟩ := rp_all fun x hx => h x (List.mem_cons_of_mem _ hx)
    have hd := h d List.mem_cons_self
    refine ⟨by rw [okA_cons, hd.ok, a]; rfl, ?_, ?_⟩
    · have e : (ds.length + 1) * (n + 2) = ds.length * (n + 2) + (n + 2) := Nat.succ_mul _ _
      have := hd.sz
      rw [szA_cons, List.length_cons, e]; omega
    · rw [depA_cons]; exact Nat.max_le.mpr ⟨hd.dep, c⟩
theorem rp_tup {n k m N : Nat} {ds : List PyData} (h : ∀ d ∈ ds, Rp n k d) (hm : ds.length ≤ m) (hN : m * (n + 2) + 3 ≤ N) : Rp N (k + 1) (.tuple ds) := by
  obtain ⟨a, b, c⟩ := rp_all h
  refine ⟨by rw [okD_t]; exact a, ?_, by rw [dep_t]; omega⟩
  rw [sz_t]
  have := Nat.mul_le_mul_right (n + 2) hm
  omega
theorem rp_lst {n k m N : Nat} {ds : List PyData} (h : ∀ d ∈ ds, Rp n k d) (hm : ds.length ≤ m) (hN : m * (n + 2) + 3 ≤ N) : Rp N (k + 1) (.list ds) := by
  obtain ⟨a, b, c⟩ := rp_all h
  refine ⟨by rw [okD_l]; exact a, ?_, by rw [dep_l]; omega⟩
  rw [sz_l]
  have := Nat.mul_le_mul_right (n + 2) hm
  omega
theorem rp_i {i : Int} (h : i.natAbs < 2 ^ 64) : Rp 70 0 (.int i) := ⟨by rw [okD_i, decide_eq_true h], by rw [sz_i]; exact Nat.le_refl _, by simp⟩
theorem rp_b {b : Bool} : Rp 5 0 (.bool b) := ⟨by simp, by simp, by simp⟩
theorem rp_n : Rp 4 0 .none := ⟨by simp, by simp, by simp⟩
theorem rp_s {x : Str} {n : Nat} (h : (reprText x).length ≤ n) : Rp n 0 (.str x) := ⟨by simp, by rw [sz_s]; exact h, by simp⟩
theorem rp_tup1 {n k : Nat} {a : PyData} (ha : Rp n k a) : Rp (n + 5) (k + 1) (.tuple [a]) := rp_tup (m := 1) (fun d hd => by rw [List.mem_singleton.mp hd]; exact ha) (Nat.le_refl _) (by omega)
theorem rp_tup2 {n m k l : Nat} {a b : PyData} (ha : Rp n k a) (hb : Rp m l b) : Rp (n + m + 7) (max k l + 1) (.tuple [a, b]) := ⟨by rw [okD_t, okA_cons, okA_cons, okA_nil, ha.ok, hb.ok]; rfl, by
  have := ha.sz; have := hb.sz
  rw [sz_t, szA_cons, szA_cons, szA_nil]; omega, by
  have := ha.dep; have := hb.dep
  simp; omega⟩
theorem rp_tup3 {n m o k l j : Nat} {a b c : PyData} (ha : Rp n k a) (hb : Rp m l b) (hc : Rp o j c) : Rp (n + m + o + 9) (max k (max l j) + 1) (.tuple [a, b, c]) := ⟨by rw [okD_t, okA_cons, okA_cons, okA_cons, okA_nil, ha.ok, hb.ok, hc.ok]; rfl, by
  have := ha.sz; have := hb.sz; have := hc.sz
  rw [sz_t, szA_cons, szA_cons, szA_cons, szA_nil]; omega, by
  have := ha.dep; have := hb.dep; have := hc.dep
  simp; omega⟩
theorem rp_tup4 {n m o p k l j i : Nat} {a b c d : PyData} (ha : Rp n k a) (hb : Rp m l b) (hc : Rp o j c) (hd : Rp p i d) : Rp (n + m + o + p + 11) (max k (max l (max j i)) + 1) (.tuple [a, b, c, d]) := ⟨by rw [okD_t, okA_cons, okA_cons, okA_cons, okA_cons, okA_nil, ha.ok, hb.ok, hc.ok, hd.ok]; rfl, by
  have := ha.sz; have := hb.sz; have := hc.sz; have := hd.sz
  rw [sz_t, szA_cons, szA_cons, szA_cons, szA_cons, szA_nil]; omega, by
  have := ha.dep; have := hb.dep; have := hc.dep; have := hd.dep
  simp; omega⟩
theorem rp_ints {w : List Int} {m N : Nat} (h : ∀ l ∈ w, l.natAbs < 2 ^ 64) (hm : w.length ≤ m) (hN : m * 72 + 3 ≤ N) : Rp N 1 (.tuple (w.map .int)) := rp_tup (n := 70) (k := 0) (fun d hd => by
  obtain ⟨x, hx, rfl⟩ := List.mem_map.mp hd
  exact rp_i (h x hx)) (by simpa using hm) hN
theorem rp_map {α : Type} {e : α → PyData} {w : List α} {n k m N : Nat} (h : ∀ l ∈ w, Rp n k (e l)) (hm : w.length ≤ m) (hN : m * (n + 2) + 3 ≤ N) : Rp N (k + 1) (.tuple (w.map e)) := rp_tup (fun d hd => by
  obtain ⟨x, hx, rfl⟩ := List.mem_map.mp hd
  exact h x hx) (by simpa using hm) hN
theorem rp_mapL {α : Type} {e : α → PyData} {w : List α} {n k m N : Nat} (h : ∀ l ∈ w, Rp n k (e l)) (hm : w.length ≤ m) (hN : m * (n + 2) + 3 ≤ N) : Rp N (k + 1) (.list (w.map e)) := rp_lst (fun d hd => by
  obtain ⟨x, hx, rfl⟩ := List.mem_map.mp hd
  exact h x hx) (by simpa using hm) hN
theorem drawC {α : Type} {f : α → Src → Option (α × Src)} : True := trivial
end DL

/-! TYX: plain facts about rows and tables told by functions, sums. -/
namespace DL
open PySem PySem.Spec PyProof.Rows L2
def row {α : Type} (n : Nat) (g : Nat → α) : List α := (List.range n).map g
def tab {α : Type} (n : Nat) (f : Nat → Nat → α) : List (List α) := row n fun i => row n (f i)
section
variable {α β γ : Type} {n : Nat} {g h : Nat → α} {f : Nat → Nat → α}
@[simp] theorem row_len : (row n g).length = n := by simp [row]
theorem row_get {i : Nat} (hi : i < n) : (row n g)[i]? = some (g i) := by simp [row, hi]
theorem row_get_none {i : Nat} (hi : n ≤ i) : (row n g)[i]? = none := by simp [row, hi]
theorem row_ext (e : ∀ i, i < n → g i = h i) : row n g = row n h := List.map_congr_left fun i hi => e i (List.mem_range.mp hi)
theorem row_map {k : α → β} : (row n g).map k = row n fun i => k (g i) := by simp [row]
theorem mem_row {x : α} (hx : x ∈ row n g) : ∃ i, i < n ∧ x = g i := by
  obtain ⟨i, hi, rfl⟩ := List.mem_map.mp hx
  exact ⟨i, List.mem_range.mp hi, rfl⟩
theorem row_inj (e : row n g = row n h) {i : Nat} (hi : i < n) : g i = h i := by
  have := congrArg (fun l => l[i]?) e
  simpa [row_get hi] using this
theorem list_row (l : List α) (d : α) : l = row l.length fun i => l.getD i d := by
  refine List.ext_getElem? fun i => ?_
  by_cases hi : i < l.length
  · rw [row_get hi, List.getD_eq_getElem?_getD, List.getElem?_eq_getElem hi]; rfl
  · rw [row_get_none (by omega), List.getElem?_eq_none (by omega)]
theorem row_set {i : Nat} {v : α} : (row n g).set i v = row n fun j => if j = i then v else g j := by
  refine List.ext_getElem? fun j => ?_
  rw [List.getElem?_set, row_len]
  by_cases hj : j < n
  · rw [row_get hj, row_get hj]
    by_cases e : i = j
    · subst e; simp [hj]
    · rw [if_neg e, if_neg (Ne.symm e)]
  · rw [row_get_none (by omega), row_get_none (by omega)]
    by_cases e : i = j
    · subst e; simp [hj]
    · rw [if_neg e]
theorem ixN_ok {i : Int} (h0 : 0 ≤ i) (h1 : i < n) : ixN n i = some i.toNat := by unfold ixN; rw [if_pos h0, if_pos h1]
theorem atI_row {i : Int} (h0 : 0 ≤ i) (h1 : i < n) : atI (row n g) i = some (g i.toNat) := by rw [atI_of h0, row_get (by omega)]
theorem setT_row {i : Int} {v : α} (h0 : 0 ≤ i) (h1 : i < n) : setT (row n g) i v = some (row n fun j => if j = i.toNat then v else g j) := by
  unfold setT; rw [row_len, ixN_ok h0 h1, Option.map_some, row_set]
theorem at2T_tab {i j : Int} (h0 : 0 ≤ i) (h1 : i < n) (h2 : 0 ≤ j) (h3 : j < n) : at2T (tab n f) i j = some (f i.toNat j.toNat) := by
  unfold at2T tab; rw [atI_row h0 h1, Option.bind_some, atI_row h2 h3]
theorem set2T_tab {i j : Int} {v : α} (h0 : 0 ≤ i) (h1 : i < n) (h2 : 0 ≤ j) (h3 : j < n) : set2T (tab n f) i j v = some (tab n fun k l => if k = i.toNat ∧ l = j.toNat then v else f k l) := by
  unfold set2T tab
  rw [row_len, ixN_ok h0 h1, Option.bind_some, row_get (by omega), Option.bind_some, row_len, ixN_ok h2 h3, Option.map_some, row_set, row_set]
  congr 1
  refine row_ext fun k _ => ?_
  by_cases hk : k = i.toNat
  · subst hk; simp
  · simp [hk]
theorem compG_all {F : α → Option β} (G : α → β) {xs : List α} (hl : xs.length ≤ 1000000) (h : ∀ x ∈ xs, F x = some (G x)) : compG (fun _ => some true) F xs = some (xs.map G) := by
  rw [compG_some (fun _ => true) G hl (fun _ _ => rfl) fun x hx _ => h x hx, List.filter_eq_self.mpr fun _ _ => rfl]
theorem compG_row {F : α → Option β} (G : α → β) (hl : n ≤ 1000000) (h : ∀ i, i < n → F (g i) = some (G (g i))) : compG (fun _ => some true) F (row n g) = some (row n fun i => G (g i)) := by
  rw [compG_all G (by rw [row_len]; exact hl) fun x hx => by obtain ⟨i, hi, rfl⟩ := mem_row hx; exact h i hi, row_map]
theorem rng1_row (hn : n ≤ 1000000) : rng1T (n : Int) = some (row n fun k => (k : Int)) := rng1_ok hn
theorem rep1_row {x : α} (hn : n ≤ 10000) : rep1T x (n : Int) = some (row n fun _ => x) := by
  unfold rep1T
  rw [if_pos (by omega)]
  congr 1
  refine List.ext_getElem? fun i => ?_
  by_cases hi : i < n
  · rw [row_get hi]; simp [hi]
  · rw [row_get_none (by omega)]; simp; omega
theorem zip_row {k : Nat → β} : (row n g).zip (row n k) = row n fun i => (g i, k i) := by
  refine List.ext_getElem? fun i => ?_
  by_cases hi : i < n
  · rw [row_get hi, List.getElem?_zip_eq_some.mpr]
    exact ⟨row_get hi, row_get hi⟩
  · rw [row_get_none (by omega), List.getElem?_eq_none (by simp; omega)]
theorem zipT_row {k : Nat → β} : zipT (row n g) (row n k) = some (row n fun i => (g i, k i)) := by rw [zipT_ok (by simp), zip_row]
end
/-! ### sums -/
def SM (n : Nat) (g : Nat → Int) : Int := (row n g).sum
section
variable {n : Nat} {g h : Nat → Int}
theorem SM_zero : SM 0 g = 0 := rfl
theorem SM_succ : SM (n + 1) g = SM n g + g n := by simp [SM, row, List.range_succ]
theorem SM_ext (e : ∀ i, i < n → g i = h i) : SM n g = SM n h := by unfold SM; rw [row_ext e]
theorem SM_add : SM n (fun i => g i + h i) = SM n g + SM n h := by
  induction n with
  | zero => rfl
  | succ n ih => rw [SM_succ, SM_succ, SM_succ, ih]; omega
theorem SM_sub : SM n (fun i => g i - h i) = SM n g - SM n h := by
  induction n with
  | zero => rfl
  | succ n ih => rw [SM_succ, SM_succ, SM_succ, ih]; omega
theorem SM_mul (c : Int) : SM n (fun i => c * g i) = c * SM n g := by
  induction n with
  | zero => simp [SM_zero]
  | succ n ih => rw [SM_succ, SM_succ, ih, Int.mul_add]
theorem SM_mulr (c : Int) : SM n (fun i => g i * c) = SM n g * c := by
  induction n with
  | zero => simp [SM_zero]
  | succ n ih => rw [SM_succ, SM_succ, ih, Int.add_mul]
theorem SM_0 : SM n (fun _ => 0) = 0 := by
  induction n with
  | zero => rfl
  | succ n ih => rw [SM_succ, ih]; rfl
theorem SM_one (a : Nat) (c : Nat → Int) : SM n (fun i => if i = a then c i else 0) = if a < n then c a else 0 := by
  induction n with
  | zero => rfl
  | succ n ih =>
    rw [SM_succ, ih]
    by_cases h : n = a
    · subst h; simp
    · rw [if_neg h]
      by_cases h2 : a < n
      · rw [if_pos h2, if_pos (by omega)]; omega
      · rw [if_neg h2, if_neg (by omega)]; rfl
theorem SM_swap {m : Nat} {f : Nat → Nat → Int} : SM n (fun i => SM m (f i)) = SM m fun j => SM n fun i => f i j := by
  induction n with
  | zero => simp [SM_zero, SM_0]
  | succ n ih => rw [SM_succ, ih, ← SM_add]; exact SM_ext fun j _ => by rw [SM_succ]
theorem row_sum : (row n g).sum = SM n g := rfl
end
/-- a list compared with [] , whatever it holds -/
theorem eqE_nilL (ds : List PyData) : eqE (.list ds) (.list []) = some (.bool ds.isEmpty) := by
  cases ds with
  | nil =>
    have : eqD (.list []) (.list []) = some (.bool true) := by rfl
    unfold eqE; rw [this]; rfl
  | cons d r =>
    unfold eqE
    cases h : eqD (.list (d :: r)) (.list []) with
    | none => simp [eqX]
    | some x =>
      dsimp only
      unfold eqD at h
      obtain ⟨b, hb, rfl⟩ := Option.map_eq_some_iff.mp h
      rcases eqB_some hb with ⟨_, _, e, _⟩ | ⟨_, _, rfl⟩
      · cases e
      · rfl
theorem eqE_nilT (ds : List PyData) : eqE (.tuple ds) (.tuple []) = some (.bool ds.isEmpty) := by
  cases ds with
  | nil =>
    have : eqD (.tuple []) (.tuple []) = some (.bool true) := by rfl
    unfold eqE; rw [this]; rfl
  | cons d r =>
    unfold eqE
    cases h : eqD (.tuple (d :: r)) (.tuple []) with
    | none => simp [eqX]
    | some x =>
      dsimp only
      unfold eqD at h
      obtain ⟨b, hb, rfl⟩ := Option.map_eq_some_iff.mp h
      rcases eqB_some hb with ⟨_, _, e, _⟩ | ⟨_, _, rfl⟩
      · cases e
      · rfl
end DL

namespace K48
open PySem PySem.Spec PyProof.Rows L2 DL
/-! ### law_k48_whole_states_of_fractions: the text -/
def topS (i : Nat) : Stmt := PySem.Challenge.pw_lacednets_k48_whole_states_of_fractions.main.body.getD i (.Pass ⟨0, 0, 0, 0⟩)
/-! ### mirrors -/
abbrev s_sign_of_letter : Stmt := topS 4
def m_sign_of_letter : List PyData → Option (PyData × List PyData) := mDef .frz [.frz] 1
  (sRet (mIf (mTest (mBin gtD (mVal (mVar 0)) (mVal (ret (.int 0))))) (ret (.int 1)) (mUn negD (mVal (ret (.int 1))))))
abbrev s_word_table : Stmt := topS 5
def b0_word_table : B := (sSeq (sAsg (mCall .frz 1 m_sign_of_letter (mA (mVal (mVar 1)) mA0)) (gNm 6))
  (sIf (mTest (mBin eqE (mVal (mCallB absD (mA (mVal (mVar 1)) mA0))) (mVal (ret (.int 1)))))
  (sParK [2, 3] (mF (mBin addD (mVal (mVar 2)) (mVal (mBin mulD (mVal (mVar 6)) (mVal (mVar 4))))) (mF (mBin addD (mVal (mVar 3)) (mVal (mBin mulD (mVal (mVar 6)) (mVal (mVar 5))))) mF0)))
  (sParK [4, 5] (mF (mBin addD (mVal (mVar 4)) (mVal (mBin mulD (mVal (mVar 6)) (mVal (mVar 2))))) (mF (mBin addD (mVal (mVar 5)) (mVal (mBin mulD (mVal (mVar 6)) (mVal (mVar 3))))) mF0)))))
def m_word_table : List PyData → Option (PyData × List PyData) := mDef .frz [.frz] 7
  (sSeq (sAsg (mTup (mA (mVal (ret (.int 1))) (mA (mVal (ret (.int 0))) (mA (mVal (ret (.int 0))) (mA (mVal (ret (.int 1))) mA0))))) (gTp 4 (gCn (gNm 2) (gCn (gNm 3) (gCn (gNm 4) (gCn (gNm 5) gNl))))))
  (sSeq (sFor (mIt (mVar 0)) (gNm 1) b0_word_table)
  (sRet (mTup (mA (mVal (mTup (mA (mVal (mVar 2)) (mA (mVal (mVar 3)) mA0)))) (mA (mVal (mTup (mA (mVal (mVar 4)) (mA (mVal (mVar 5)) mA0)))) mA0))))))
abbrev s_told_fraction : Stmt := topS 6
def m_told_fraction : List PyData → Option (PyData × List PyData) := mDef .frz [.frz, .frz] 2
  (sRet (mIf (mOr (mTest (mBin ltD (mVal (mVar 0)) (mVal (ret (.int 0))))) (mAnd (mTest (mBin eqE (mVal (mVar 0)) (mVal (ret (.int 0))))) (mTest (mBin ltD (mVal (mVar 1)) (mVal (ret (.int 0))))))) (mTup (mA (mVal (mUn negD (mVal (mVar 0)))) (mA (mVal (mUn negD (mVal (mVar 1)))) mA0))) (mTup (mA (mVal (mVar 0)) (mA (mVal (mVar 1)) mA0)))))
abbrev s_state_fraction : Stmt := topS 7
def m_state_fraction : List PyData → Option (PyData × List PyData) := mDef .frz [.frz] 5
  (sSeq (sAsg (mCall .frz 1 m_word_table (mA (mVal (mBin itemD (mVal (mVar 0)) (mVal (ret (.int 1))))) mA0)) (gTp 2 (gCn (gTp 2 (gCn (gNm 1) (gCn (gNm 2) gNl))) (gCn (gTp 2 (gCn (gNm 3) (gCn (gNm 4) gNl))) gNl))))
  (sRet (mIf (mTest (mBin eqE (mVal (mBin itemD (mVal (mVar 0)) (mVal (ret (.int 0))))) (mVal (ret (.int 1))))) (mCall .frz 2 m_told_fraction (mA (mVal (mVar 1)) (mA (mVal (mVar 3)) mA0))) (mCall .frz 2 m_told_fraction (mA (mVal (mVar 2)) (mA (mVal (mVar 4)) mA0))))))
abbrev s_is_told_state : Stmt := topS 8
def c0_is_told_state : M PyData := mComp (mIt (mVar 2)) (gNm 3) (mTest (mBin neD (mVal (mCall .frz 1 m_sign_of_letter (mA (mVal (mVar 3)) mA0))) (mVal (mBin itemD (mVal (mVar 2)) (mVal (ret (.int 0))))))) (mVar 3) [3]
def m_is_told_state : List PyData → Option (PyData × List PyData) := mDef .frz [.frz] 4
  (sSeq (sAsg (mVar 0) (gTp 2 (gCn (gNm 1) (gCn (gNm 2) gNl))))
  (sSeq (sIf (mOr (mTest (mBin eqE (mVal (mVar 1)) (mVal (ret (.int 1))))) (mTest (mBin eqE (mVal (mVar 2)) (mVal (mTup mA0)))))
  (sRet (mBin eqE (mVal (mVar 2)) (mVal (mTup mA0))))
  sNx)
  (sRet (mAndV (mBin eqE (mVal (mCallB absD (mA (mVal (mBin itemD (mVal (mVar 2)) (mVal (ret (.int 0))))) mA0))) (mVal (ret (.int 1)))) (mBin eqE (mVal c0_is_told_state) (mVal (mLst mA0)))))))
abbrev s_state_of_fraction : Stmt := topS 9
def b0_state_of_fraction : B := (sIf (mTest (mBin geD (mVal (mVar 1)) (mVal (mVar 4))))
  (sSeq (sExpr (mApp 5 (mVar 3)))
  (sAug 1 subD (mVar 4)))
  (sSeq (sExpr (mApp 5 (mBin mulD (mVal (ret (.int 2))) (mVal (mVar 3)))))
  (sAug 4 subD (mVar 1))))
def m_state_of_fraction : List PyData → Option (PyData × List PyData) := mDef .frz [.frz] 6
  (sSeq (sAsg (mVar 0) (gTp 2 (gCn (gNm 1) (gCn (gNm 2) gNl))))
  (sSeq (sIf (mOr (mTest (mBin ltD (mVal (mVar 1)) (mVal (ret (.int 0))))) (mAnd (mTest (mBin eqE (mVal (mVar 1)) (mVal (ret (.int 0))))) (mTest (mBin neD (mVal (mVar 2)) (mVal (ret (.int 1)))))))
  sNo
  sNx)
  (sSeq (sParK [3, 4, 5] (mF (mIf (mTest (mBin gtD (mVal (mVar 2)) (mVal (ret (.int 0))))) (ret (.int 1)) (mUn negD (mVal (ret (.int 1))))) (mF (mCallB absD (mA (mVal (mVar 2)) mA0)) (mF (mLst mA0) mF0))))
  (sSeq (sIf (mTest (mBin eqE (mVal (mVar 4)) (mVal (ret (.int 0)))))
  (sSeq (sIf (mTest (mBin neD (mVal (mVar 1)) (mVal (ret (.int 1)))))
  sNo
  sNx)
  (sRet (mTup (mA (mVal (ret (.int 1))) (mA (mVal (mTup mA0)) mA0)))))
  sNx)
  (sSeq (sWhile (fun _ => 1000) (mAnd (mTest (mBin gtD (mVal (mVar 1)) (mVal (ret (.int 0))))) (mTest (mBin gtD (mVal (mVar 4)) (mVal (ret (.int 0)))))) b0_state_of_fraction)
  (sSeq (sIf (mTest (mBin neD (mVal (mVar 4)) (mVal (ret (.int 1)))))
  sNo
  sNx)
  (sRet (mTup (mA (mVal (ret (.int 0))) (mA (mVal (mCallB tupleD (mA (mVal (mRevS (mSlot 5))) mA0))) mA0))))))))))
def b0_y_state_of_fraction : B := (sIf (mTest (mBin geD (mVal (mVar 1)) (mVal (mVar 4))))
  (sSeq (sExpr (mApp 5 (mVar 3)))
  (sAug 1 subD (mVar 4)))
  (sSeq (sExpr (mApp 5 (mBin mulD (mVal (ret (.int 2))) (mVal (mVar 3)))))
  (sAug 4 subD (mVar 1))))
def m_y_state_of_fraction : List PyData → Option (PyData × List PyData) := mDef .frz [.frz] 6
  (sSeq (sAsg (mVar 0) (gTp 2 (gCn (gNm 1) (gCn (gNm 2) gNl))))
  (sSeq (sIf (mOr (mTest (mBin ltD (mVal (mVar 1)) (mVal (ret (.int 0))))) (mAnd (mTest (mBin eqE (mVal (mVar 1)) (mVal (ret (.int 0))))) (mTest (mBin neD (mVal (mVar 2)) (mVal (ret (.int 1)))))))
  (sRet (ret (.bool true)))
  sNx)
  (sSeq (sParK [3, 4, 5] (mF (mIf (mTest (mBin gtD (mVal (mVar 2)) (mVal (ret (.int 0))))) (ret (.int 1)) (mUn negD (mVal (ret (.int 1))))) (mF (mCallB absD (mA (mVal (mVar 2)) mA0)) (mF (mLst mA0) mF0))))
  (sSeq (sIf (mTest (mBin eqE (mVal (mVar 4)) (mVal (ret (.int 0)))))
  (sSeq (sIf (mTest (mBin neD (mVal (mVar 1)) (mVal (ret (.int 1)))))
  (sRet (ret (.bool true)))
  sNx)
  (sRet (ret (.bool false))))
  sNx)
  (sSeq (sWhile (fun _ => 1000) (mAnd (mTest (mBin gtD (mVal (mVar 1)) (mVal (ret (.int 0))))) (mTest (mBin gtD (mVal (mVar 4)) (mVal (ret (.int 0)))))) b0_y_state_of_fraction)
  (sSeq (sIf (mTest (mBin neD (mVal (mVar 4)) (mVal (ret (.int 1)))))
  (sRet (ret (.bool true)))
  sNx)
  (sRet (ret (.bool false)))))))))
abbrev s__law_source : Stmt := topS 11
def b0_law_source : B := (sAsg (mBin modD (mVal (mCallB intD (mA (mVal (mBin addD (mVal (mBin addD (mVal (mBin mulD (mVal (mVar 1)) (mVal (ret (.int 69069))))) (mVal (mBin mulD (mVal (mVar 2)) (mVal (ret (.int 31))))))) (mVal (ret (.int 5))))) mA0))) (mVal (ret (.int 2147483629)))) (gNm 1))
def c0_law_source : M PyData := mComp (mIt (mVar 0)) (gNm 2) mYes (mCallB absD (mA (mVal (mVar 2)) mA0)) [2]
def m_law_source : List PyData → Option (PyData × List PyData) := mDef .src [.frz] 3
  (sSeq (sAsg (ret (.int 11)) (gNm 1))
  (sSeq (sFor (mIt (mVar 0)) (gNm 2) b0_law_source)
  (sRet (mSrcNew (mUn revD (mVal c0_law_source)) (ret (.int 1)) (mVar 1) (ret (.int 0))))))
abbrev s__law_pick : Stmt := topS 12
def b0_law_pick : B := (sSrcPut 0 .left (mSrcPop 0))
def m_law_pick : List PyData → Option (PyData × List PyData) := mDef .frz [.src, .frz] 4
  (sSeq (sWhile (srcFuel 0) (mAnd (mTest (mBin gtD (mVal (mVar 1)) (mVal (ret (.int 1))))) (mAnd (mTest (mBin ltD (mVal (mSrcGet 0 .left)) (mVal (ret (.int 2))))) (mTest (mBin gtD (mVal (mSrcLen 0)) (mVal (ret (.int 0))))))) b0_law_pick)
  (sSeq (sAsg (mSrcGet 0 .left) (gNm 2))
  (sSeq (sIf (mOr (mTest (mBin ltD (mVal (mVar 1)) (mVal (ret (.int 2))))) (mTest (mBin gtD (mVal (mVar 2)) (mVal (ret (.int 1))))))
  (sSeq (sSrcPut 0 .left (mBin fdivD (mVal (mVar 2)) (mVal (mCallB max2D (mA (mVal (ret (.int 1))) (mA (mVal (mVar 1)) mA0))))))
  (sRet (mBin modD (mVal (mCallB intD (mA (mVal (mVar 2)) mA0))) (mVal (mCallB max2D (mA (mVal (ret (.int 1))) (mA (mVal (mVar 1)) mA0)))))))
  sNx)
  (sSeq (sSrcPut 0 .turn (mBin addD (mVal (mSrcGet 0 .turn)) (mVal (ret (.int 1)))))
  (sSeq (sAsg (mBin modD (mVal (mCallB intD (mA (mVal (mBin addD (mVal (mSrcGet 0 .mixed)) (mVal (mBin mulD (mVal (mSrcGet 0 .turn)) (mVal (ret (.int 104729))))))) mA0))) (mVal (ret (.int 998244353)))) (gNm 3))
  (sSeq (sAsg (mBin modD (mVal (mCallB intD (mA (mVal (mBin addD (mVal (mBin mulD (mVal (mVar 3)) (mVal (mVar 3)))) (mVal (mBin mulD (mVal (mSrcGet 0 .turn)) (mVal (ret (.int 17))))))) mA0))) (mVal (ret (.int 2147483647)))) (gNm 3))
  (sSeq (sSrcPut 0 .mixed (mVar 3))
  (sRet (mBin modD (mVal (mCallB intD (mA (mVal (mBin fdivD (mVal (mVar 3)) (mVal (ret (.int 16))))) mA0))) (mVal (mVar 1)))))))))))
abbrev s__law_of_fraction : Stmt := topS 13
def b0_law_of_fraction : B := (sIf (mTest (mBin geD (mVal (mVar 0)) (mVal (mVar 3))))
  (sParK [4, 0] (mF (mBin addD (mVal (mTup (mA (mVal (mVar 2)) mA0))) (mVal (mVar 4))) (mF (mBin subD (mVal (mVar 0)) (mVal (mVar 3))) mF0)))
  (sParK [4, 3] (mF (mBin addD (mVal (mTup (mA (mVal (mBin mulD (mVal (ret (.int 2))) (mVal (mVar 2)))) mA0))) (mVal (mVar 4))) (mF (mBin subD (mVal (mVar 3)) (mVal (mVar 0))) mF0))))
def m_law_of_fraction : List PyData → Option (PyData × List PyData) := mDef .frz [.frz, .frz] 5
  (sSeq (sIf (mTest (mBin eqE (mVal (mVar 1)) (mVal (ret (.int 0)))))
  (sRet (mTup (mA (mVal (ret (.int 1))) (mA (mVal (mTup mA0)) mA0))))
  sNx)
  (sSeq (sParK [2, 3, 4] (mF (mIf (mTest (mBin gtD (mVal (mVar 1)) (mVal (ret (.int 0))))) (ret (.int 1)) (mUn negD (mVal (ret (.int 1))))) (mF (mCallB absD (mA (mVal (mVar 1)) mA0)) (mF (mTup mA0) mF0))))
  (sSeq (sWhile (fun _ => 1000) (mTest (mBin gtD (mVal (mVar 0)) (mVal (ret (.int 0))))) b0_law_of_fraction)
  (sRet (mTup (mA (mVal (ret (.int 0))) (mA (mVal (mVar 4)) mA0)))))))
abbrev s__law_told : Stmt := topS 14
def m_law_told : List PyData → Option (PyData × List PyData) := mDef .frz [.frz] 1
  (sTry (sRet (mCall .frz 1 m_y_state_of_fraction (mA (mVal (mVar 0)) mA0))) (sRet (mCall .frz 1 m_state_of_fraction (mA (mVal (mVar 0)) mA0))) (sRet (ret .none)))
abbrev s__law_common : Stmt := topS 15
def b0_law_common : B := (sParK [0, 1] (mF (mVar 1) (mF (mBin modD (mVal (mCallB intD (mA (mVal (mVar 0)) mA0))) (mVal (mVar 1))) mF0)))
def m_law_common : List PyData → Option (PyData × List PyData) := mDef .frz [.frz, .frz] 2
  (sSeq (sParK [0, 1] (mF (mCallB absD (mA (mVal (mVar 0)) mA0)) (mF (mCallB absD (mA (mVal (mVar 1)) mA0)) mF0)))
  (sSeq (sWhile (fun _ => 1000) (mTest (mBin gtD (mVal (mVar 1)) (mVal (ret (.int 0))))) b0_law_common)
  (sRet (mVar 0))))
abbrev s_law : Stmt := topS 16
def b0_law : B := (sSeq (sAsg (mBin itemD (mVal (mLst (mA (mVal (ret (.int 2))) (mA (mVal (ret (.int 4))) (mA (mVal (ret (.int 9))) (mA (mVal (ret (.int 30))) mA0)))))) (mVal (mBin fdivD (mVal (mVar 2)) (mVal (ret (.int 3)))))) (gNm 5))
  (sSeq (sParK [13, 14] (mF (mBin subD (mVal (mCallS .frz .src m_law_pick 1 1 (mA (mVal (mBin addD (mVal (mVar 5)) (mVal (ret (.int 1))))) mA0))) (mVal (mBin fdivD (mVal (mVar 2)) (mVal (ret (.int 11)))))) (mF (mBin subD (mVal (mCallS .frz .src m_law_pick 1 1 (mA (mVal (mBin addD (mVal (mBin mulD (mVal (ret (.int 2))) (mVal (mVar 5)))) (mVal (ret (.int 1))))) mA0))) (mVal (mVar 5))) mF0)))
  (sSeq (sAsg (mOrV (mAndV (mBin gtD (mVal (mVar 13)) (mVal (ret (.int 0)))) (mAndV (mBin eqE (mVal (mCall .frz 2 m_law_common (mA (mVal (mVar 13)) (mA (mVal (mVar 14)) mA0)))) (mVal (ret (.int 1)))) (mOrV (mBin neD (mVal (mVar 14)) (mVal (ret (.int 0)))) (mBin eqE (mVal (mVar 13)) (mVal (ret (.int 1))))))) (mBin eqE (mVal (mTup (mA (mVal (mVar 13)) (mA (mVal (mVar 14)) mA0)))) (mVal (mTup (mA (mVal (ret (.int 0))) (mA (mVal (ret (.int 1))) mA0)))))) (gNm 6))
  (sSeq (sAsg (mIf (mTest (mVar 6)) (mCall .frz 2 m_law_of_fraction (mA (mVal (mVar 13)) (mA (mVal (mVar 14)) mA0))) (ret .none)) (gNm 7))
  (sSeq (sAsg (mCall .frz 1 m_law_told (mA (mVal (mTup (mA (mVal (mVar 13)) (mA (mVal (mVar 14)) mA0)))) mA0)) (gNm 8))
  (sSeq (sIf (mTest (mBin neD (mVal (mCallB reprD (mA (mVal (mVar 8)) mA0))) (mVal (mCallB reprD (mA (mVal (mVar 7)) mA0)))))
  (sRet (ret (.bool false)))
  sNx)
  (sIf (mAnd (mTest (mBin isNotD (mVal (mVar 8)) (mVal (ret .none)))) (mOr (mTest (mBin neD (mVal (mCall .frz 1 m_state_fraction (mA (mVal (mVar 8)) mA0))) (mVal (mTup (mA (mVal (mVar 13)) (mA (mVal (mVar 14)) mA0)))))) (mTest (mBin isNotD (mVal (mCall .frz 1 m_is_told_state (mA (mVal (mVar 8)) mA0))) (mVal (ret (.bool true)))))))
  (sRet (ret (.bool false)))
  sNx)))))))
def c0_law : M PyData := mComp (mIt (mTup (mA (mVal (ret (.int 1))) (mA (mVal (ret (.int 2))) (mA (mVal (mUn negD (mVal (ret (.int 1))))) (mA (mVal (mUn negD (mVal (ret (.int 2))))) mA0)))))) (gNm 15) mYes (mBin addD (mVal (mVar 4)) (mVal (mTup (mA (mVal (mVar 15)) mA0)))) [15]
def b1_law : B := (sAsg (mBin addD (mVal (mVar 11)) (mVal c0_law)) (gNm 11))
def c1_law : M PyData := mComp (mIt (mVar 11)) (gNm 4) (mAnd (mTest (mBin gtD (mVal (mBin mulD (mVal (mBin itemD (mVal (mVar 4)) (mVal (ret (.int 0))))) (mVal (mBin itemD (mVal (mVar 4)) (mVal (mUn negD (mVal (ret (.int 1))))))))) (mVal (ret (.int 0))))) (mTest (mBin inD (mVal (mBin itemD (mVal (mVar 4)) (mVal (ret (.int 0))))) (mVal (mTup (mA (mVal (ret (.int 1))) (mA (mVal (mUn negD (mVal (ret (.int 1))))) mA0))))))) (mVar 4) [4]
def b2_law : B := (sSeq (sAsg (mLst mA0) (gNm 11))
  (sSeq (sFor (mIt (mVar 10)) (gNm 4) b1_law)
  (sAsg c1_law (gNm 10))))
def b3_law : B := (sSeq (sAsg (mCall .frz 1 m_state_fraction (mA (mVal (mTup (mA (mVal (ret (.int 0))) (mA (mVal (mVar 4)) mA0)))) mA0)) (gNm 12))
  (sSeq (sIf (mOr (mTest (mDIn .dt 3 (mVar 12))) (mOr (mTest (mBin neD (mVal (mCall .frz 1 m_law_told (mA (mVal (mVar 12)) mA0))) (mVal (mTup (mA (mVal (ret (.int 0))) (mA (mVal (mVar 4)) mA0)))))) (mTest (mBin isNotD (mVal (mCall .frz 1 m_is_told_state (mA (mVal (mTup (mA (mVal (ret (.int 0))) (mA (mVal (mVar 4)) mA0)))) mA0))) (mVal (ret (.bool true)))))))
  (sRet (ret (.bool false)))
  sNx)
  (DL.sDPut .dt 3 (mVar 4) (mVar 12))))
def m_law : List PyData → Option (PyData × List PyData) := mDef .frz [.frz] 16
  (sSeq (sAsg (mCall .src 1 m_law_source (mA (mVal (mVar 0)) mA0)) (gNm 1))
  (sSeq (sFor (mRng rg1 (mA (mVal (ret (.int 12))) mA0)) (gNm 2) b0_law)
  (sSeq (sParK [9, 10] (mF (mBin addD (mVal (ret (.int 1))) (mVal (mCallS .frz .src m_law_pick 1 1 (mA (mVal (ret (.int 5))) mA0)))) (mF (mLst (mA (mVal (mTup mA0)) mA0)) mF0)))
  (sSeq (sFor (mRng rg1 (mA (mVal (mVar 9)) mA0)) (gNm 2) b2_law)
  (sSeq (sIf (mTest (mBin neD (mVal (mCallB lenD (mA (mVal (mVar 10)) mA0))) (mVal (mBin shlD (mVal (ret (.int 1))) (mVal (mVar 9))))))
  (sRet (ret (.bool false)))
  sNx)
  (sSeq (sAsg (ret (.dict [])) (gNm 3))
  (sSeq (sFor (mIt (mVar 10)) (gNm 4) b3_law)
  (sRet (mAndV (mBin eqE (mVal (mCall .frz 1 m_state_of_fraction (mA (mVal (mTup (mA (mVal (ret (.int 2))) (mA (mVal (ret (.int 3))) mA0)))) mA0))) (mVal (mTup (mA (mVal (ret (.int 0))) (mA (mVal (mTup (mA (mVal (ret (.int 1))) (mA (mVal (ret (.int 1))) (mA (mVal (ret (.int 2))) mA0))))) mA0))))) (mAndV (mBin isD (mVal (mCall .frz 1 m_law_told (mA (mVal (mTup (mA (mVal (ret (.int 2))) (mA (mVal (ret (.int 4))) mA0)))) mA0))) (mVal (ret .none))) (mBin isD (mVal (mCall .frz 1 m_law_told (mA (mVal (mTup (mA (mVal (ret (.int 0))) (mA (mVal (ret (.int 0))) mA0)))) mA0))) (mVal (ret .none)))))))))))))
/-! ### derivations -/
section
variable {P : Program} {w : World} {K : PySem.W.Frag} {mg : Str → Option Value} {base : Heap}
theorem sc_sign_of_letter : FnScope ["letter"] ["letter"] (defScope s_sign_of_letter) := ⟨rfl, rfl, rfl, by decide +kernel, rfl, by decide +kernel, by decide +kernel⟩
theorem nd_sign_of_letter : (["letter"] : List Str).Nodup := sc_sign_of_letter.nd
theorem ok_sign_of_letter {f : Addr} {fd : FuncData} {k : Nat} (F : Fun K "sign_of_letter" "sign_of_letter" s_sign_of_letter f fd) (hm : mg "sign_of_letter" = some (.ref f)) : FnD P w K mg base (k + 1) "sign_of_letter" [.frz] .frz m_sign_of_letter := by
  refine FnD.of_body (N := ["letter"]) (ps := ["letter"]) (ks := [.frz]) (own := []) F hm (F.binds fun _ _ _ _ _ _ us hl => match us, hl with | [_], _ => rfl) sc_sign_of_letter rfl rfl rfl (hown_of rfl) fun cdv A outer s H E vs room guards hlen => ?_
  exact (ss_one (sd_ret (ed_if (td_cmp o_gt (rd_val (ed_var 0)) (rd_val ed_int) rfl) ed_int (ed_un o_neg (rd_val ed_int)))))
theorem sc_word_table : FnScope ["word", "letter", "a", "b", "c", "d", "sign"] ["word"] (defScope s_word_table) := ⟨rfl, rfl, rfl, by decide +kernel, rfl, by decide +kernel, by decide +kernel⟩
theorem nd_word_table : (["word", "letter", "a", "b", "c", "d", "sign"] : List Str).Nodup := sc_word_table.nd
theorem ok_word_table {f : Addr} {fd : FuncData} {k : Nat} (F : Fun K "word_table" "word_table" s_word_table f fd) (hm : mg "word_table" = some (.ref f)) (D_sign_of_letter : FnD P w K mg base k "sign_of_letter" [.frz] .frz m_sign_of_letter) (z_abs : mg "abs" = none) : FnD P w K mg base (k + 1) "word_table" [.frz] .frz m_word_table := by
  refine FnD.of_body (N := ["word", "letter", "a", "b", "c", "d", "sign"]) (ps := ["word"]) (ks := [.frz, .frz, .frz, .frz, .frz, .frz, .frz]) (own := []) F hm (F.binds fun _ _ _ _ _ _ us hl => match us, hl with | [_], _ => rfl) sc_word_table rfl rfl rfl (hown_of rfl) fun cdv A outer s H E vs room guards hlen => ?_
  exact (ss_cons (sd_asg (ed_tup (ad_cons (rd_val ed_int) (ad_cons (rd_val ed_int) (ad_cons (rd_val ed_int) (ad_cons (rd_val ed_int) ad_nil))))) (gd_tup rfl (gsd_cons (gd_name nd_word_table rfl (.inl rfl) rfl (psOk_pins rfl) (vs := [2, 3, 4, 5]) (by decide)) (gsd_cons (gd_name nd_word_table rfl (.inl rfl) rfl (psOk_pins rfl) (vs := [2, 3, 4, 5]) (by decide)) (gsd_cons (gd_name nd_word_table rfl (.inl rfl) rfl (psOk_pins rfl) (vs := [2, 3, 4, 5]) (by decide)) (gsd_cons (gd_name nd_word_table rfl (.inl rfl) rfl (psOk_pins rfl) (vs := [2, 3, 4, 5]) (by decide)) gsd_nil))))))
    (ss_cons (sd_for PassesOwn.never rfl (id_seq (ed_var 0)) (gd_name nd_word_table rfl (.inl rfl) rfl (psOk_pins rfl) (vs := [1]) (by decide))
    (ss_cons (sd_set nd_word_table rfl (.inl rfl) rfl (psOk_pins rfl) (ed_call (n := 1) D_sign_of_letter room guards rfl pass0 (ad_cons (rd_val (ed_var 1)) ad_nil)))
    (ss_one (sd_if (td_cmp (o_eqE (hu64 room)) (rd_val (ed_callB f_abs rfl z_abs (by decide +kernel) (ad_cons (rd_val (ed_var 1)) ad_nil))) (rd_val ed_int) rfl)
    (ss_one (sd_parK2 rfl nd_word_table rfl rfl (by decide) rfl rfl (kds := [.frz, .frz]) (kds_of rfl) (af_cons (fd_frz (ed_bin o_add (rd_val (ed_var 2)) (rd_val (ed_bin o_mul (rd_val (ed_var 6)) (rd_val (ed_var 4)))))) (af_cons (fd_frz (ed_bin o_add (rd_val (ed_var 3)) (rd_val (ed_bin o_mul (rd_val (ed_var 6)) (rd_val (ed_var 5)))))) af_nil)) rfl))
    (ss_one (sd_parK2 rfl nd_word_table rfl rfl (by decide) rfl rfl (kds := [.frz, .frz]) (kds_of rfl) (af_cons (fd_frz (ed_bin o_add (rd_val (ed_var 4)) (rd_val (ed_bin o_mul (rd_val (ed_var 6)) (rd_val (ed_var 2)))))) (af_cons (fd_frz (ed_bin o_add (rd_val (ed_var 5)) (rd_val (ed_bin o_mul (rd_val (ed_var 6)) (rd_val (ed_var 3)))))) af_nil)) rfl))))))
    (ss_one (sd_ret (ed_tup (ad_cons (rd_val (ed_tup (ad_cons (rd_val (ed_var 2)) (ad_cons (rd_val (ed_var 3)) ad_nil)))) (ad_cons (rd_val (ed_tup (ad_cons (rd_val (ed_var 4)) (ad_cons (rd_val (ed_var 5)) ad_nil)))) ad_nil)))))))
theorem sc_told_fraction : FnScope ["p", "q"] ["p", "q"] (defScope s_told_fraction) := ⟨rfl, rfl, rfl, by decide +kernel, rfl, by decide +kernel, by decide +kernel⟩
theorem nd_told_fraction : (["p", "q"] : List Str).Nodup := sc_told_fraction.nd
theorem ok_told_fraction {f : Addr} {fd : FuncData} {k : Nat} (F : Fun K "told_fraction" "told_fraction" s_told_fraction f fd) (hm : mg "told_fraction" = some (.ref f)) : FnD P w K mg base (k + 1) "told_fraction" [.frz, .frz] .frz m_told_fraction := by
  refine FnD.of_body (N := ["p", "q"]) (ps := ["p", "q"]) (ks := [.frz, .frz]) (own := []) F hm (F.binds fun _ _ _ _ _ _ us hl => match us, hl with | [_, _], _ => rfl) sc_told_fraction rfl rfl rfl (hown_of rfl) fun cdv A outer s H E vs room guards hlen => ?_
  exact (ss_one (sd_ret (ed_if (wd_pt (wd_or (td_cmp o_lt (rd_val (ed_var 0)) (rd_val ed_int) rfl) (wd_or1 (wd_pt (wd_and (td_cmp (o_eqE (hu64 room)) (rd_val (ed_var 0)) (rd_val ed_int) rfl) (wd_and1 (td_cmp o_lt (rd_val (ed_var 1)) (rd_val ed_int) rfl))))))) (ed_tup (ad_cons (rd_val (ed_un o_neg (rd_val (ed_var 0)))) (ad_cons (rd_val (ed_un o_neg (rd_val (ed_var 1)))) ad_nil))) (ed_tup (ad_cons (rd_val (ed_var 0)) (ad_cons (rd_val (ed_var 1)) ad_nil))))))
theorem sc_state_fraction : FnScope ["state", "a", "b", "c", "d"] ["state"] (defScope s_state_fraction) := ⟨rfl, rfl, rfl, by decide +kernel, rfl, by decide +kernel, by decide +kernel⟩
theorem nd_state_fraction : (["state", "a", "b", "c", "d"] : List Str).Nodup := sc_state_fraction.nd
theorem ok_state_fraction {f : Addr} {fd : FuncData} {k : Nat} (F : Fun K "state_fraction" "state_fraction" s_state_fraction f fd) (hm : mg "state_fraction" = some (.ref f)) (D_word_table : FnD P w K mg base k "word_table" [.frz] .frz m_word_table) (D_told_fraction : FnD P w K mg base k "told_fraction" [.frz, .frz] .frz m_told_fraction) : FnD P w K mg base (k + 1) "state_fraction" [.frz] .frz m_state_fraction := by
  refine FnD.of_body (N := ["state", "a", "b", "c", "d"]) (ps := ["state"]) (ks := [.frz, .frz, .frz, .frz, .frz]) (own := []) F hm (F.binds fun _ _ _ _ _ _ us hl => match us, hl with | [_], _ => rfl) sc_state_fraction rfl rfl rfl (hown_of rfl) fun cdv A outer s H E vs room guards hlen => ?_
  exact (ss_cons (sd_asg (ed_call (n := 1) D_word_table room guards rfl pass0 (ad_cons (rd_val (ed_ix (rd_val (ed_var 0)) (rd_val ed_int) (fun _ _ => rfl))) ad_nil)) (gd_tup rfl (gsd_cons (gd_tup rfl (gsd_cons (gd_name nd_state_fraction rfl (.inl rfl) rfl (psOk_pins rfl) (vs := [1, 2, 3, 4]) (by decide)) (gsd_cons (gd_name nd_state_fraction rfl (.inl rfl) rfl (psOk_pins rfl) (vs := [1, 2, 3, 4]) (by decide)) gsd_nil))) (gsd_cons (gd_tup rfl (gsd_cons (gd_name nd_state_fraction rfl (.inl rfl) rfl (psOk_pins rfl) (vs := [1, 2, 3, 4]) (by decide)) (gsd_cons (gd_name nd_state_fraction rfl (.inl rfl) rfl (psOk_pins rfl) (vs := [1, 2, 3, 4]) (by decide)) gsd_nil))) gsd_nil))))
    (ss_one (sd_ret (ed_if (td_cmp (o_eqE (hu64 room)) (rd_val (ed_ix (rd_val (ed_var 0)) (rd_val ed_int) (fun _ _ => rfl))) (rd_val ed_int) rfl) (ed_call (n := 2) D_told_fraction room guards rfl pass0 (ad_cons (rd_val (ed_var 1)) (ad_cons (rd_val (ed_var 3)) ad_nil))) (ed_call (n := 2) D_told_fraction room guards rfl pass0 (ad_cons (rd_val (ed_var 2)) (ad_cons (rd_val (ed_var 4)) ad_nil)))))))
theorem sc_is_told_state : FnScope ["state", "start", "word", "one"] ["state"] (defScope s_is_told_state) := ⟨rfl, rfl, rfl, by decide +kernel, rfl, by decide +kernel, by decide +kernel⟩
theorem nd_is_told_state : (["state", "start", "word", "one"] : List Str).Nodup := sc_is_told_state.nd
theorem ok_is_told_state {f : Addr} {fd : FuncData} {k : Nat} (F : Fun K "is_told_state" "is_told_state" s_is_told_state f fd) (hm : mg "is_told_state" = some (.ref f)) (D_sign_of_letter : FnD P w K mg base k "sign_of_letter" [.frz] .frz m_sign_of_letter) (z_abs : mg "abs" = none) : FnD P w K mg base (k + 1) "is_told_state" [.frz] .frz m_is_told_state := by
  refine FnD.of_body (N := ["state", "start", "word", "one"]) (ps := ["state"]) (ks := [.frz, .frz, .frz, .frz]) (own := []) F hm (F.binds fun _ _ _ _ _ _ us hl => match us, hl with | [_], _ => rfl) sc_is_told_state rfl rfl rfl (hown_of rfl) fun cdv A outer s H E vs room guards hlen => ?_
  exact (ss_cons (sd_asg (ed_var 0) (gd_tup rfl (gsd_cons (gd_name nd_is_told_state rfl (.inl rfl) rfl (psOk_pins rfl) (vs := [1, 2]) (by decide)) (gsd_cons (gd_name nd_is_told_state rfl (.inr rfl) rfl (psOk_pins rfl) (vs := [1, 2]) (by decide)) gsd_nil))))
    (ss_cons (sd_if (wd_pt (wd_or (td_cmp (o_eqE (hu64 room)) (rd_val (ed_var 1)) (rd_val ed_int) rfl) (wd_or1 (td_cmp (o_eqE (hu64 room)) (rd_val (ed_var 2)) (rd_val (ed_tup ad_nil)) rfl))))
    (ss_one (sd_ret (ed_cmp (o_eqE (hu64 room)) (rd_val (ed_var 2)) (rd_val (ed_tup ad_nil)) rfl)))
    ss_nil)
    (ss_one (sd_ret (ed_and (ed_cmp (o_eqE (hu64 room)) (rd_val (ed_callB f_abs rfl z_abs (by decide +kernel) (ad_cons (rd_val (ed_ix (rd_val (ed_var 2)) (rd_val ed_int) (fun _ _ => rfl))) ad_nil))) (rd_val ed_int) rfl) (ed_one (ed_cmp (o_eqE (hu64 room)) (rd_val (ed_comp rfl nd_is_told_state (id_seq (ed_var 2)) (own := [("one", 3)]) (blkOk_by rfl) (fun _ _ _ _ _ => (gd_name nd_is_told_state rfl (.inl rfl) rfl (psOk_pins rfl) (vs := [3]) (by decide))) (fun _ _ _ _ _ => (ptd_one (td_cmp (o_ne (hu64 room)) (rd_val (ed_call (n := 1) D_sign_of_letter room guards rfl pass0 (ad_cons (rd_val (ed_var 3)) ad_nil))) (rd_val (ed_ix (rd_val (ed_var 2)) (rd_val ed_int) (fun _ _ => rfl))) rfl))) (fun _ _ _ _ _ => (ed_var 3)) (frzAll_pins rfl))) (rd_val (ed_lst ad_nil)) rfl)))))))
theorem sc_state_of_fraction : FnScope ["fraction", "p", "q", "sign", "size", "found"] ["fraction"] (defScope s_state_of_fraction) := ⟨rfl, rfl, rfl, by decide +kernel, rfl, by decide +kernel, by decide +kernel⟩
theorem nd_state_of_fraction : (["fraction", "p", "q", "sign", "size", "found"] : List Str).Nodup := sc_state_of_fraction.nd
theorem ok_state_of_fraction {f : Addr} {fd : FuncData} {k : Nat} (F : Fun K "state_of_fraction" "state_of_fraction" s_state_of_fraction f fd) (hm : mg "state_of_fraction" = some (.ref f)) (z_abs : mg "abs" = none) (z_tuple : mg "tuple" = none) : FnD P w K mg base (k + 1) "state_of_fraction" [.frz] .frz m_state_of_fraction := by
  refine FnD.of_body (N := ["fraction", "p", "q", "sign", "size", "found"]) (ps := ["fraction"]) (ks := [.frz, .frz, .frz, .frz, .frz, .l1]) (own := []) F hm (F.binds fun _ _ _ _ _ _ us hl => match us, hl with | [_], _ => rfl) sc_state_of_fraction rfl rfl rfl (hown_of rfl) fun cdv A outer s H E vs room guards hlen => ?_
  exact (ss_cons (sd_asg (ed_var 0) (gd_tup rfl (gsd_cons (gd_name nd_state_of_fraction rfl (.inl rfl) rfl (psOk_pins rfl) (vs := [1, 2]) (by decide)) (gsd_cons (gd_name nd_state_of_fraction rfl (.inl rfl) rfl (psOk_pins rfl) (vs := [1, 2]) (by decide)) gsd_nil))))
    (ss_cons (sd_if (wd_pt (wd_or (td_cmp o_lt (rd_val (ed_var 1)) (rd_val ed_int) rfl) (wd_or1 (wd_pt (wd_and (td_cmp (o_eqE (hu64 room)) (rd_val (ed_var 1)) (rd_val ed_int) rfl) (wd_and1 (td_cmp (o_ne (hu64 room)) (rd_val (ed_var 2)) (rd_val ed_int) rfl)))))))
    (ss_one sd_no)
    ss_nil)
    (ss_cons (sd_parK3 rfl nd_state_of_fraction rfl rfl rfl (by decide) (by decide) (by decide) rfl rfl rfl (kds := [.frz, .frz, .l1]) (kds_of rfl) (af_cons (fd_frz (ed_if (td_cmp o_gt (rd_val (ed_var 2)) (rd_val ed_int) rfl) ed_int (ed_un o_neg (rd_val ed_int)))) (af_cons (fd_frz (ed_callB f_abs rfl z_abs (by decide +kernel) (ad_cons (rd_val (ed_var 2)) ad_nil))) (af_cons (fd_lst ad_nil) af_nil))) rfl)
    (ss_cons (sd_if (td_cmp (o_eqE (hu64 room)) (rd_val (ed_var 4)) (rd_val ed_int) rfl)
    (ss_cons (sd_if (td_cmp (o_ne (hu64 room)) (rd_val (ed_var 1)) (rd_val ed_int) rfl)
    (ss_one sd_no)
    ss_nil)
    (ss_one (sd_ret (ed_tup (ad_cons (rd_val ed_int) (ad_cons (rd_val (ed_tup ad_nil)) ad_nil))))))
    ss_nil)
    (ss_cons (sd_while PassesOwn.never (wd_pt (wd_and (td_cmp o_gt (rd_val (ed_var 1)) (rd_val ed_int) rfl) (wd_and1 (td_cmp o_gt (rd_val (ed_var 4)) (rd_val ed_int) rfl))))
    (ss_one (sd_if (td_cmp o_ge (rd_val (ed_var 1)) (rd_val (ed_var 4)) rfl)
    (ss_cons (sd_expr (ed_append rfl rfl (ed_var 3)))
    (ss_one (sd_aug nd_state_of_fraction rfl (.inl rfl) rfl (psOk_pins rfl) i_sub (ed_var 4))))
    (ss_cons (sd_expr (ed_append rfl rfl (ed_bin o_mul (rd_val ed_int) (rd_val (ed_var 3)))))
    (ss_one (sd_aug nd_state_of_fraction rfl (.inl rfl) rfl (psOk_pins rfl) i_sub (ed_var 1)))))))
    (ss_cons (sd_if (td_cmp (o_ne (hu64 room)) (rd_val (ed_var 4)) (rd_val ed_int) rfl)
    (ss_one sd_no)
    ss_nil)
    (ss_one (sd_ret (ed_tup (ad_cons (rd_val ed_int) (ad_cons (rd_val (ed_callTy f_tuple rfl z_tuple (by decide +kernel) (ad_cons (rd_val (ed_revS (rd_slot 5) (slotOk_slot rfl))) ad_nil))) ad_nil)))))))))))
theorem okx_state_of_fraction {f : Addr} {fd : FuncData} {k : Nat} (F : Fun K "state_of_fraction" "state_of_fraction" s_state_of_fraction f fd) (hm : mg "state_of_fraction" = some (.ref f)) {C_NotOfIt : Addr} (E_NotOfIt : ExcF K mg "NotOfIt" C_NotOfIt) (z_abs : mg "abs" = none) : FnX P w K mg base C_NotOfIt (k + 1) "state_of_fraction" 1 (xOf m_y_state_of_fraction) := by
  refine FnX.of_body (N := ["fraction", "p", "q", "sign", "size", "found"]) (ps := ["fraction"]) (ks := [.frz, .frz, .frz, .frz, .frz, .l1]) F hm (F.binds fun _ _ _ _ _ _ us hl => match us, hl with | [_], _ => rfl) sc_state_of_fraction rfl rfl rfl fun cdv A outer s H E vs room guards hlen tk => ?_
  exact (rss_cons (rs_norm (rk := .frz) (sd_asg (ed_var 0) (gd_tup rfl (gsd_cons (gd_name nd_state_of_fraction rfl (.inl rfl) rfl (psOk_pins rfl) (vs := [1, 2]) (by decide)) (gsd_cons (gd_name nd_state_of_fraction rfl (.inl rfl) rfl (psOk_pins rfl) (vs := [1, 2]) (by decide)) gsd_nil)))) nrt_asg)
    (rss_cons (rs_if (wd_pt (wd_or (td_cmp o_lt (rd_val (ed_var 1)) (rd_val ed_int) rfl) (wd_or1 (wd_pt (wd_and (td_cmp (o_eqE (hu64 room)) (rd_val (ed_var 1)) (rd_val ed_int) rfl) (wd_and1 (td_cmp (o_ne (hu64 room)) (rd_val (ed_var 2)) (rd_val ed_int) rfl))))))) (rss_one (rs_raise rfl tk E_NotOfIt rfl)) rss_nil)
    (rss_cons (rs_norm (rk := .frz) (sd_parK3 rfl nd_state_of_fraction rfl rfl rfl (by decide) (by decide) (by decide) rfl rfl rfl (kds := [.frz, .frz, .l1]) (kds_of rfl) (af_cons (fd_frz (ed_if (td_cmp o_gt (rd_val (ed_var 2)) (rd_val ed_int) rfl) ed_int (ed_un o_neg (rd_val ed_int)))) (af_cons (fd_frz (ed_callB f_abs rfl z_abs (by decide +kernel) (ad_cons (rd_val (ed_var 2)) ad_nil))) (af_cons (fd_lst ad_nil) af_nil))) rfl) nrt_parK)
    (rss_cons (rs_if (td_cmp (o_eqE (hu64 room)) (rd_val (ed_var 4)) (rd_val ed_int) rfl) (rss_cons (rs_if (td_cmp (o_ne (hu64 room)) (rd_val (ed_var 1)) (rd_val ed_int) rfl) (rss_one (rs_raise rfl tk E_NotOfIt rfl)) rss_nil)
    (rss_one rs_ret)) rss_nil)
    (rss_cons (rs_norm (rk := .frz) (sd_while PassesOwn.never (wd_pt (wd_and (td_cmp o_gt (rd_val (ed_var 1)) (rd_val ed_int) rfl) (wd_and1 (td_cmp o_gt (rd_val (ed_var 4)) (rd_val ed_int) rfl))))
    (ss_one (sd_if (td_cmp o_ge (rd_val (ed_var 1)) (rd_val (ed_var 4)) rfl)
    (ss_cons (sd_expr (ed_append rfl rfl (ed_var 3)))
    (ss_one (sd_aug nd_state_of_fraction rfl (.inl rfl) rfl (psOk_pins rfl) i_sub (ed_var 4))))
    (ss_cons (sd_expr (ed_append rfl rfl (ed_bin o_mul (rd_val ed_int) (rd_val (ed_var 3)))))
    (ss_one (sd_aug nd_state_of_fraction rfl (.inl rfl) rfl (psOk_pins rfl) i_sub (ed_var 1))))))) (nrt_while (nrt_if (nrt_seq nrt_expr nrt_aug) (nrt_seq nrt_expr nrt_aug))))
    (rss_cons (rs_if (td_cmp (o_ne (hu64 room)) (rd_val (ed_var 4)) (rd_val ed_int) rfl) (rss_one (rs_raise rfl tk E_NotOfIt rfl)) rss_nil)
    (rss_one rs_ret)))))))
theorem sc__law_source : FnScope ["script", "mixed", "cell"] ["script"] (defScope s__law_source) := ⟨rfl, rfl, rfl, by decide +kernel, rfl, by decide +kernel, by decide +kernel⟩
theorem nd__law_source : (["script", "mixed", "cell"] : List Str).Nodup := sc__law_source.nd
theorem ok__law_source {f : Addr} {fd : FuncData} {k : Nat} (F : Fun K "_law_source" "_law_source" s__law_source f fd) (hm : mg "_law_source" = some (.ref f)) (z_abs : mg "abs" = none) (z_int : mg "int" = none) : FnD P w K mg base (k + 1) "_law_source" [.frz] .src m_law_source := by
  refine FnD.of_body (N := ["script", "mixed", "cell"]) (ps := ["script"]) (ks := [.frz, .frz, .frz]) (own := []) F hm (F.binds fun _ _ _ _ _ _ us hl => match us, hl with | [_], _ => rfl) sc__law_source rfl rfl rfl (hown_of rfl) fun cdv A outer s H E vs room guards hlen => ?_
  exact (ss_cons (sd_set nd__law_source rfl (.inl rfl) rfl (psOk_pins rfl) ed_int)
    (ss_cons (sd_for PassesOwn.never rfl (id_seq (ed_var 0)) (gd_name nd__law_source rfl (.inl rfl) rfl (psOk_pins rfl) (vs := [2]) (by decide))
    (ss_one (sd_set nd__law_source rfl (.inl rfl) rfl (psOk_pins rfl) (ed_bin o_mod (rd_val (ed_callTy f_int rfl z_int (by decide +kernel) (ad_cons (rd_val (ed_bin o_add (rd_val (ed_bin o_add (rd_val (ed_bin o_mul (rd_val (ed_var 1)) (rd_val ed_int))) (rd_val (ed_bin o_mul (rd_val (ed_var 2)) (rd_val ed_int))))) (rd_val ed_int))) ad_nil))) (rd_val ed_int)))))
    (ss_one (sd_retF (fd_srcNew (fd_revL (rd_val (ed_comp rfl nd__law_source (id_seq (ed_var 0)) (own := [("cell", 2)]) (blkOk_by rfl) (fun _ _ _ _ _ => (gd_name nd__law_source rfl (.inl rfl) rfl (psOk_pins rfl) (vs := [2]) (by decide))) (fun _ _ _ _ _ => ptd_nil) (fun _ _ _ _ _ => (ed_callB f_abs rfl z_abs (by decide +kernel) (ad_cons (rd_val (ed_var 2)) ad_nil))) (frzAll_pins rfl)))) ed_int (ed_var 1) ed_int)))))
theorem sc__law_pick : FnScope ["source", "many", "left", "mixed"] ["source", "many"] (defScope s__law_pick) := ⟨rfl, rfl, rfl, by decide +kernel, rfl, by decide +kernel, by decide +kernel⟩
theorem nd__law_pick : (["source", "many", "left", "mixed"] : List Str).Nodup := sc__law_pick.nd
theorem ok__law_pick {f : Addr} {fd : FuncData} {k : Nat} (F : Fun K "_law_pick" "_law_pick" s__law_pick f fd) (hm : mg "_law_pick" = some (.ref f)) (z_int : mg "int" = none) (z_len : mg "len" = none) (z_max : mg "max" = none) : FnD P w K mg base (k + 1) "_law_pick" [.src, .frz] .frz m_law_pick := by
  refine FnD.of_body (N := ["source", "many", "left", "mixed"]) (ps := ["source", "many"]) (ks := [.src, .frz, .frz, .frz]) (own := [0]) F hm (F.binds fun _ _ _ _ _ _ us hl => match us, hl with | [_, _], _ => rfl) sc__law_pick rfl rfl rfl (hown_of rfl) fun cdv A outer s H E vs room guards hlen => ?_
  exact (ss_cons (sd_while PassesOwn.never (wd_pt (wd_and (td_cmp o_gt (rd_val (ed_var 1)) (rd_val ed_int) rfl) (wd_and (td_cmp o_lt (rd_val (ed_srcGet .left (hu1 room) rfl rfl)) (rd_val ed_int) rfl) (wd_and1 (td_cmp o_gt (rd_val (ed_srcLen (hu1 room) rfl z_len rfl rfl)) (rd_val ed_int) rfl)))))
    (ss_one (sd_srcPut .left (hu1 room) rfl rfl (ed_srcPop (hu1 room) rfl rfl))))
    (ss_cons (sd_set nd__law_pick rfl (.inl rfl) rfl (psOk_pins rfl) (ed_srcGet .left (hu1 room) rfl rfl))
    (ss_cons (sd_if (wd_pt (wd_or (td_cmp o_lt (rd_val (ed_var 1)) (rd_val ed_int) rfl) (wd_or1 (td_cmp o_gt (rd_val (ed_var 2)) (rd_val ed_int) rfl))))
    (ss_cons (sd_srcPut .left (hu1 room) rfl rfl (ed_bin o_fdiv (rd_val (ed_var 2)) (rd_val (ed_callB (f_max2 rfl) rfl z_max (by decide +kernel) (ad_cons (rd_val ed_int) (ad_cons (rd_val (ed_var 1)) ad_nil))))))
    (ss_one (sd_ret (ed_bin o_mod (rd_val (ed_callTy f_int rfl z_int (by decide +kernel) (ad_cons (rd_val (ed_var 2)) ad_nil))) (rd_val (ed_callB (f_max2 rfl) rfl z_max (by decide +kernel) (ad_cons (rd_val ed_int) (ad_cons (rd_val (ed_var 1)) ad_nil))))))))
    ss_nil)
    (ss_cons (sd_srcPut .turn (hu1 room) rfl rfl (ed_bin o_add (rd_val (ed_srcGet .turn (hu1 room) rfl rfl)) (rd_val ed_int)))
    (ss_cons (sd_set nd__law_pick rfl (.inl rfl) rfl (psOk_pins rfl) (ed_bin o_mod (rd_val (ed_callTy f_int rfl z_int (by decide +kernel) (ad_cons (rd_val (ed_bin o_add (rd_val (ed_srcGet .mixed (hu1 room) rfl rfl)) (rd_val (ed_bin o_mul (rd_val (ed_srcGet .turn (hu1 room) rfl rfl)) (rd_val ed_int))))) ad_nil))) (rd_val ed_int)))
    (ss_cons (sd_set nd__law_pick rfl (.inl rfl) rfl (psOk_pins rfl) (ed_bin o_mod (rd_val (ed_callTy f_int rfl z_int (by decide +kernel) (ad_cons (rd_val (ed_bin o_add (rd_val (ed_bin o_mul (rd_val (ed_var 3)) (rd_val (ed_var 3)))) (rd_val (ed_bin o_mul (rd_val (ed_srcGet .turn (hu1 room) rfl rfl)) (rd_val ed_int))))) ad_nil))) (rd_val ed_int)))
    (ss_cons (sd_srcPut .mixed (hu1 room) rfl rfl (ed_var 3))
    (ss_one (sd_ret (ed_bin o_mod (rd_val (ed_callTy f_int rfl z_int (by decide +kernel) (ad_cons (rd_val (ed_bin o_fdiv (rd_val (ed_var 3)) (rd_val ed_int))) ad_nil))) (rd_val (ed_var 1))))))))))))
theorem sc__law_of_fraction : FnScope ["p", "q", "sign", "size", "word"] ["p", "q"] (defScope s__law_of_fraction) := ⟨rfl, rfl, rfl, by decide +kernel, rfl, by decide +kernel, by decide +kernel⟩
theorem nd__law_of_fraction : (["p", "q", "sign", "size", "word"] : List Str).Nodup := sc__law_of_fraction.nd
theorem ok__law_of_fraction {f : Addr} {fd : FuncData} {k : Nat} (F : Fun K "_law_of_fraction" "_law_of_fraction" s__law_of_fraction f fd) (hm : mg "_law_of_fraction" = some (.ref f)) (z_abs : mg "abs" = none) : FnD P w K mg base (k + 1) "_law_of_fraction" [.frz, .frz] .frz m_law_of_fraction := by
  refine FnD.of_body (N := ["p", "q", "sign", "size", "word"]) (ps := ["p", "q"]) (ks := [.frz, .frz, .frz, .frz, .frz]) (own := []) F hm (F.binds fun _ _ _ _ _ _ us hl => match us, hl with | [_, _], _ => rfl) sc__law_of_fraction rfl rfl rfl (hown_of rfl) fun cdv A outer s H E vs room guards hlen => ?_
  exact (ss_cons (sd_if (td_cmp (o_eqE (hu64 room)) (rd_val (ed_var 1)) (rd_val ed_int) rfl)
    (ss_one (sd_ret (ed_tup (ad_cons (rd_val ed_int) (ad_cons (rd_val (ed_tup ad_nil)) ad_nil)))))
    ss_nil)
    (ss_cons (sd_parK3 rfl nd__law_of_fraction rfl rfl rfl (by decide) (by decide) (by decide) rfl rfl rfl (kds := [.frz, .frz, .frz]) (kds_of rfl) (af_cons (fd_frz (ed_if (td_cmp o_gt (rd_val (ed_var 1)) (rd_val ed_int) rfl) ed_int (ed_un o_neg (rd_val ed_int)))) (af_cons (fd_frz (ed_callB f_abs rfl z_abs (by decide +kernel) (ad_cons (rd_val (ed_var 1)) ad_nil))) (af_cons (fd_frz (ed_tup ad_nil)) af_nil))) rfl)
    (ss_cons (sd_while PassesOwn.never (td_cmp o_gt (rd_val (ed_var 0)) (rd_val ed_int) rfl)
    (ss_one (sd_if (td_cmp o_ge (rd_val (ed_var 0)) (rd_val (ed_var 3)) rfl)
    (ss_one (sd_parK2 rfl nd__law_of_fraction rfl rfl (by decide) rfl rfl (kds := [.frz, .frz]) (kds_of rfl) (af_cons (fd_frz (ed_bin o_add (rd_val (ed_tup (ad_cons (rd_val (ed_var 2)) ad_nil))) (rd_val (ed_var 4)))) (af_cons (fd_frz (ed_bin o_sub (rd_val (ed_var 0)) (rd_val (ed_var 3)))) af_nil)) rfl))
    (ss_one (sd_parK2 rfl nd__law_of_fraction rfl rfl (by decide) rfl rfl (kds := [.frz, .frz]) (kds_of rfl) (af_cons (fd_frz (ed_bin o_add (rd_val (ed_tup (ad_cons (rd_val (ed_bin o_mul (rd_val ed_int) (rd_val (ed_var 2)))) ad_nil))) (rd_val (ed_var 4)))) (af_cons (fd_frz (ed_bin o_sub (rd_val (ed_var 3)) (rd_val (ed_var 0)))) af_nil)) rfl)))))
    (ss_one (sd_ret (ed_tup (ad_cons (rd_val ed_int) (ad_cons (rd_val (ed_var 4)) ad_nil))))))))
theorem sc__law_told : FnScope ["fraction"] ["fraction"] (defScope s__law_told) := ⟨rfl, rfl, rfl, by decide +kernel, rfl, by decide +kernel, by decide +kernel⟩
theorem nd__law_told : (["fraction"] : List Str).Nodup := sc__law_told.nd
theorem ok__law_told {f : Addr} {fd : FuncData} {k : Nat} (F : Fun K "_law_told" "_law_told" s__law_told f fd) (hm : mg "_law_told" = some (.ref f)) (D_state_of_fraction : FnD P w K mg base k "state_of_fraction" [.frz] .frz m_state_of_fraction) {C_NotOfIt : Addr} (E_NotOfIt : ExcF K mg "NotOfIt" C_NotOfIt) (X_state_of_fraction : FnX P w K mg base C_NotOfIt k "state_of_fraction" 1 (xOf m_y_state_of_fraction)) : FnD P w K mg base (k + 1) "_law_told" [.frz] .frz m_law_told := by
  refine FnD.of_body (N := ["fraction"]) (ps := ["fraction"]) (ks := [.frz]) (own := []) F hm (F.binds fun _ _ _ _ _ _ us hl => match us, hl with | [_], _ => rfl) sc__law_told rfl rfl rfl (hown_of rfl) fun cdv A outer s H E vs room guards hlen => ?_
  exact (ss_one (sd_try rfl rfl rfl E_NotOfIt takes0 (fun _ _ => (ss_one (sd_ret (ed_call (n := 1) D_state_of_fraction room guards rfl pass0 (ad_cons (rd_val (ed_var 0)) ad_nil)))))
    (fun _ _ _ tk => (rss_one (rs_retC X_state_of_fraction room guards rfl tk (ad_cons (rd_val (ed_var 0)) ad_nil))))
    (fun _ _ _ => (ss_one (sd_ret ed_non)))))
theorem sc__law_common : FnScope ["a", "b"] ["a", "b"] (defScope s__law_common) := ⟨rfl, rfl, rfl, by decide +kernel, rfl, by decide +kernel, by decide +kernel⟩
theorem nd__law_common : (["a", "b"] : List Str).Nodup := sc__law_common.nd
theorem ok__law_common {f : Addr} {fd : FuncData} {k : Nat} (F : Fun K "_law_common" "_law_common" s__law_common f fd) (hm : mg "_law_common" = some (.ref f)) (z_abs : mg "abs" = none) (z_int : mg "int" = none) : FnD P w K mg base (k + 1) "_law_common" [.frz, .frz] .frz m_law_common := by
  refine FnD.of_body (N := ["a", "b"]) (ps := ["a", "b"]) (ks := [.frz, .frz]) (own := []) F hm (F.binds fun _ _ _ _ _ _ us hl => match us, hl with | [_, _], _ => rfl) sc__law_common rfl rfl rfl (hown_of rfl) fun cdv A outer s H E vs room guards hlen => ?_
  exact (ss_cons (sd_parK2 rfl nd__law_common rfl rfl (by decide) rfl rfl (kds := [.frz, .frz]) (kds_of rfl) (af_cons (fd_frz (ed_callB f_abs rfl z_abs (by decide +kernel) (ad_cons (rd_val (ed_var 0)) ad_nil))) (af_cons (fd_frz (ed_callB f_abs rfl z_abs (by decide +kernel) (ad_cons (rd_val (ed_var 1)) ad_nil))) af_nil)) rfl)
    (ss_cons (sd_while PassesOwn.never (td_cmp o_gt (rd_val (ed_var 1)) (rd_val ed_int) rfl)
    (ss_one (sd_parK2 rfl nd__law_common rfl rfl (by decide) rfl rfl (kds := [.frz, .frz]) (kds_of rfl) (af_cons (fd_frz (ed_var 1)) (af_cons (fd_frz (ed_bin o_mod (rd_val (ed_callTy f_int rfl z_int (by decide +kernel) (ad_cons (rd_val (ed_var 0)) ad_nil))) (rd_val (ed_var 1)))) af_nil)) rfl)))
    (ss_one (sd_ret (ed_var 0)))))
theorem sc_law : FnScope ["script", "source", "lap", "fractions", "word", "far", "is_one", "due", "told", "k", "words", "late", "fraction", "p", "q", "letter"] ["script"] (defScope s_law) := ⟨rfl, rfl, rfl, by decide +kernel, rfl, by decide +kernel, by decide +kernel⟩
theorem nd_law : (["script", "source", "lap", "fractions", "word", "far", "is_one", "due", "told", "k", "words", "late", "fraction", "p", "q", "letter"] : List Str).Nodup := sc_law.nd
theorem ok_law {f : Addr} {fd : FuncData} {k : Nat} (F : Fun K "law" "law" s_law f fd) (hm : mg "law" = some (.ref f)) (D__law_source : FnD P w K mg base k "_law_source" [.frz] .src m_law_source) (D__law_pick : FnD P w K mg base k "_law_pick" [.src, .frz] .frz m_law_pick) (D__law_common : FnD P w K mg base k "_law_common" [.frz, .frz] .frz m_law_common) (D__law_of_fraction : FnD P w K mg base k "_law_of_fraction" [.frz, .frz] .frz m_law_of_fraction) (D__law_told : FnD P w K mg base k "_law_told" [.frz] .frz m_law_told) (D_state_fraction : FnD P w K mg base k "state_fraction" [.frz] .frz m_state_fraction) (D_is_told_state : FnD P w K mg base k "is_told_state" [.frz] .frz m_is_told_state) (D_state_of_fraction : FnD P w K mg base k "state_of_fraction" [.frz] .frz m_state_of_fraction) (z_len : mg "len" = none) (z_range : mg "range" = none) (z_repr : mg "repr" = none) : FnD P w K mg base (k + 1) "law" [.frz] .frz m_law := by
  refine FnD.of_body (N := ["script", "source", "lap", "fractions", "word", "far", "is_one", "due", "told", "k", "words", "late", "fraction", "p", "q", "letter"]) (ps := ["script"]) (ks := [.frz, .src, .frz, .dt, .frz, .frz, .frz, .frz, .frz, .frz, .frz, .frz, .frz, .frz, .frz, .frz]) (own := []) F hm (F.binds fun _ _ _ _ _ _ us hl => match us, hl with | [_], _ => rfl) sc_law rfl rfl rfl (hown_of rfl) fun cdv A outer s H E vs room guards hlen => ?_
  exact (ss_cons (sd_own nd_law rfl (.inl rfl) rfl (by decide) (psOk_pins rfl) (fd_call (n := 1) D__law_source room guards rfl pass0 (ad_cons (rd_val (ed_var 0)) ad_nil)))
    (ss_cons (sd_for PassesOwn.never rfl (id_range1 rfl z_range (ad_cons (rd_val ed_int) ad_nil)) (gd_name nd_law rfl (.inl rfl) rfl (psOk_pins rfl) (vs := [2]) (by decide))
    (ss_cons (sd_set nd_law rfl (.inl rfl) rfl (psOk_pins rfl) (ed_ix (rd_val (ed_lst (ad_cons (rd_val ed_int) (ad_cons (rd_val ed_int) (ad_cons (rd_val ed_int) (ad_cons (rd_val ed_int) ad_nil)))))) (rd_val (ed_bin o_fdiv (rd_val (ed_var 2)) (rd_val ed_int))) (fun _ _ => rfl)))
    (ss_cons (sd_parK2 rfl nd_law rfl rfl (by decide) rfl rfl (kds := [.frz, .frz]) (kds_of rfl) (af_cons (fd_frz (ed_bin o_sub (rd_val (ed_callS (n := 1) (i := 1) D__law_pick room guards rfl pass0 (by decide) rfl rfl (by first | exact .inl rfl | exact .inr (.inl rfl) | exact .inr (.inr rfl)) (ad_cons (rd_val (ed_bin o_add (rd_val (ed_var 5)) (rd_val ed_int))) ad_nil))) (rd_val (ed_bin o_fdiv (rd_val (ed_var 2)) (rd_val ed_int))))) (af_cons (fd_frz (ed_bin o_sub (rd_val (ed_callS (n := 1) (i := 1) D__law_pick room guards rfl pass0 (by decide) rfl rfl (by first | exact .inl rfl | exact .inr (.inl rfl) | exact .inr (.inr rfl)) (ad_cons (rd_val (ed_bin o_add (rd_val (ed_bin o_mul (rd_val ed_int) (rd_val (ed_var 5)))) (rd_val ed_int))) ad_nil))) (rd_val (ed_var 5)))) af_nil)) rfl)
    (ss_cons (sd_set nd_law rfl (.inl rfl) rfl (psOk_pins rfl) (ed_or (ed_and (ed_cmp o_gt (rd_val (ed_var 13)) (rd_val ed_int) rfl) (ed_and (ed_cmp (o_eqE (hu64 room)) (rd_val (ed_call (n := 2) D__law_common room guards rfl pass0 (ad_cons (rd_val (ed_var 13)) (ad_cons (rd_val (ed_var 14)) ad_nil)))) (rd_val ed_int) rfl) (ed_one (ed_or (ed_cmp (o_ne (hu64 room)) (rd_val (ed_var 14)) (rd_val ed_int) rfl) (ed_one (ed_cmp (o_eqE (hu64 room)) (rd_val (ed_var 13)) (rd_val ed_int) rfl)))))) (ed_one (ed_cmp (o_eqE (hu64 room)) (rd_val (ed_tup (ad_cons (rd_val (ed_var 13)) (ad_cons (rd_val (ed_var 14)) ad_nil)))) (rd_val (ed_tup (ad_cons (rd_val ed_int) (ad_cons (rd_val ed_int) ad_nil)))) rfl))))
    (ss_cons (sd_set nd_law rfl (.inl rfl) rfl (psOk_pins rfl) (ed_if (td_val (ed_var 6)) (ed_call (n := 2) D__law_of_fraction room guards rfl pass0 (ad_cons (rd_val (ed_var 13)) (ad_cons (rd_val (ed_var 14)) ad_nil))) ed_non))
    (ss_cons (sd_set nd_law rfl (.inl rfl) rfl (psOk_pins rfl) (ed_call (n := 1) D__law_told room guards rfl pass0 (ad_cons (rd_val (ed_tup (ad_cons (rd_val (ed_var 13)) (ad_cons (rd_val (ed_var 14)) ad_nil)))) ad_nil)))
    (ss_cons (sd_if (td_cmp (o_ne (hu64 room)) (rd_val (ed_callB (f_repr guards (hu64 room)) rfl z_repr (by decide +kernel) (ad_cons (rd_val (ed_var 8)) ad_nil))) (rd_val (ed_callB (f_repr guards (hu64 room)) rfl z_repr (by decide +kernel) (ad_cons (rd_val (ed_var 7)) ad_nil))) rfl)
    (ss_one (sd_ret ed_bl))
    ss_nil)
    (ss_one (sd_if (wd_pt (wd_and (td_cmp o_isNot (rd_val (ed_var 8)) (rd_val ed_non) rfl) (wd_and1 (wd_pt (wd_or (td_cmp (o_ne (hu64 room)) (rd_val (ed_call (n := 1) D_state_fraction room guards rfl pass0 (ad_cons (rd_val (ed_var 8)) ad_nil))) (rd_val (ed_tup (ad_cons (rd_val (ed_var 13)) (ad_cons (rd_val (ed_var 14)) ad_nil)))) rfl) (wd_or1 (td_cmp o_isNot (rd_val (ed_call (n := 1) D_is_told_state room guards rfl pass0 (ad_cons (rd_val (ed_var 8)) ad_nil))) (rd_val ed_bl) rfl)))))))
    (ss_one (sd_ret ed_bl))
    ss_nil)))))))))
    (ss_cons (sd_parK2 rfl nd_law rfl rfl (by decide) rfl rfl (kds := [.frz, .frz]) (kds_of rfl) (af_cons (fd_frz (ed_bin o_add (rd_val ed_int) (rd_val (ed_callS (n := 1) (i := 1) D__law_pick room guards rfl pass0 (by decide) rfl rfl (by first | exact .inl rfl | exact .inr (.inl rfl) | exact .inr (.inr rfl)) (ad_cons (rd_val ed_int) ad_nil))))) (af_cons (fd_frz (ed_lst (ad_cons (rd_val (ed_tup ad_nil)) ad_nil))) af_nil)) rfl)
    (ss_cons (sd_for PassesOwn.never rfl (id_range1 rfl z_range (ad_cons (rd_val (ed_var 9)) ad_nil)) (gd_name nd_law rfl (.inl rfl) rfl (psOk_pins rfl) (vs := [2]) (by decide))
    (ss_cons (sd_set nd_law rfl (.inl rfl) rfl (psOk_pins rfl) (ed_lst ad_nil))
    (ss_cons (sd_for PassesOwn.never rfl (id_seq (ed_var 10)) (gd_name nd_law rfl (.inr rfl) rfl (psOk_pins rfl) (vs := [4]) (by decide))
    (ss_one (sd_set nd_law rfl (.inl rfl) rfl (psOk_pins rfl) (ed_bin o_add (rd_val (ed_var 11)) (rd_val (ed_comp rfl nd_law (id_seq (ed_tup (ad_cons (rd_val ed_int) (ad_cons (rd_val ed_int) (ad_cons (rd_val (ed_un o_neg (rd_val ed_int))) (ad_cons (rd_val (ed_un o_neg (rd_val ed_int))) ad_nil)))))) (own := [("letter", 15)]) (blkOk_by rfl) (fun _ _ _ _ _ => (gd_name nd_law rfl (.inl rfl) rfl (psOk_pins rfl) (vs := [15]) (by decide))) (fun _ _ _ _ _ => ptd_nil) (fun _ _ _ _ _ => (ed_bin o_add (rd_val (ed_var 4)) (rd_val (ed_tup (ad_cons (rd_val (ed_var 15)) ad_nil))))) (frzAll_pins rfl)))))))
    (ss_one (sd_setLc rfl nd_law rfl rfl rfl (psOk_pins rfl) rfl (id_seq (ed_var 11)) (own := [("word", 4)]) (blkOk_by rfl) (fun _ _ _ _ _ => (gd_name nd_law rfl (.inl rfl) rfl (psOk_pins rfl) (vs := [4]) (by decide))) (fun _ _ _ _ _ => (ptd_one (wd_pt (wd_and (td_cmp o_gt (rd_val (ed_bin o_mul (rd_val (ed_ix (rd_val (ed_var 4)) (rd_val ed_int) (fun _ _ => rfl))) (rd_val (ed_ix (rd_val (ed_var 4)) (rd_val (ed_un o_neg (rd_val ed_int))) (fun _ _ => rfl))))) (rd_val ed_int) rfl) (wd_and1 (td_cmp (o_in (hu65 room)) (rd_val (ed_ix (rd_val (ed_var 4)) (rd_val ed_int) (fun _ _ => rfl))) (rd_val (ed_tup (ad_cons (rd_val ed_int) (ad_cons (rd_val (ed_un o_neg (rd_val ed_int))) ad_nil)))) rfl)))))) (fun _ _ _ _ _ => (ed_var 4)) (frzAll_pins rfl))))))
    (ss_cons (sd_if (td_cmp (o_ne (hu64 room)) (rd_val (ed_callB f_len rfl z_len PySem.boot_len (ad_cons (rd_val (ed_var 10)) ad_nil))) (rd_val (ed_bin o_shl (rd_val ed_int) (rd_val (ed_var 9)))) rfl)
    (ss_one (sd_ret ed_bl))
    ss_nil)
    (ss_cons (sd_own nd_law rfl (.inl rfl) rfl (by decide) (psOk_pins rfl) fd_dt0)
    (ss_cons (sd_for PassesOwn.never rfl (id_seq (ed_var 10)) (gd_name nd_law rfl (.inr rfl) rfl (psOk_pins rfl) (vs := [4]) (by decide))
    (ss_cons (sd_set nd_law rfl (.inl rfl) rfl (psOk_pins rfl) (ed_call (n := 1) D_state_fraction room guards rfl pass0 (ad_cons (rd_val (ed_tup (ad_cons (rd_val ed_int) (ad_cons (rd_val (ed_var 4)) ad_nil)))) ad_nil)))
    (ss_cons (sd_if (wd_pt (wd_or (td_dIn (hu1 room) rfl rfl (ed_var 12)) (wd_or (td_cmp (o_ne (hu64 room)) (rd_val (ed_call (n := 1) D__law_told room guards rfl pass0 (ad_cons (rd_val (ed_var 12)) ad_nil))) (rd_val (ed_tup (ad_cons (rd_val ed_int) (ad_cons (rd_val (ed_var 4)) ad_nil)))) rfl) (wd_or1 (td_cmp o_isNot (rd_val (ed_call (n := 1) D_is_told_state room guards rfl pass0 (ad_cons (rd_val (ed_tup (ad_cons (rd_val ed_int) (ad_cons (rd_val (ed_var 4)) ad_nil)))) ad_nil))) (rd_val ed_bl) rfl)))))
    (ss_one (sd_ret ed_bl))
    ss_nil)
    (ss_one (sd_dPut (hu1 room) rfl rfl (ed_var 4) (ed_var 12))))))
    (ss_one (sd_ret (ed_and (ed_cmp (o_eqE (hu64 room)) (rd_val (ed_call (n := 1) D_state_of_fraction room guards rfl pass0 (ad_cons (rd_val (ed_tup (ad_cons (rd_val ed_int) (ad_cons (rd_val ed_int) ad_nil)))) ad_nil))) (rd_val (ed_tup (ad_cons (rd_val ed_int) (ad_cons (rd_val (ed_tup (ad_cons (rd_val ed_int) (ad_cons (rd_val ed_int) (ad_cons (rd_val ed_int) ad_nil))))) ad_nil)))) rfl) (ed_and (ed_cmp o_is (rd_val (ed_call (n := 1) D__law_told room guards rfl pass0 (ad_cons (rd_val (ed_tup (ad_cons (rd_val ed_int) (ad_cons (rd_val ed_int) ad_nil)))) ad_nil))) (rd_val ed_non) rfl) (ed_one (ed_cmp o_is (rd_val (ed_call (n := 1) D__law_told room guards rfl pass0 (ad_cons (rd_val (ed_tup (ad_cons (rd_val ed_int) (ad_cons (rd_val ed_int) ad_nil)))) ad_nil))) (rd_val ed_non) rfl)))))))))))))
end
theorem all_mk {K : PySem.W.Frag} {h base : Heap} {mg : Str → Option Value} {P : Program} {w : World} (X : K.In h) (G : h.Ns mainGlobals mg)
    {od0 an0 : Option Addr} {sl0 : Array (Option Value)} {oc0 kV0 dc0 pm0 cd0 ct0 : Value} {f0 : Addr}
    (a0 : PySem.W.nsIn K mainGlobals "sign_of_letter" = some (some (.ref f0))) (l0 : K.lookup f0 = some ⟨oc0, od0, .func (PySem.W.fnOf "sign_of_letter" "sign_of_letter" (defArgs s_sign_of_letter) (defBody s_sign_of_letter) (defScope s_sign_of_letter) .none kV0 dc0 pm0 an0 cd0 ct0), sl0⟩) (c0 : PySem.W.codeIn K cd0 "sign_of_letter" = true) (k0 : PySem.W.keepIn K (.ref f0) = true)
    {od1 an1 : Option Addr} {sl1 : Array (Option Value)} {oc1 kV1 dc1 pm1 cd1 ct1 : Value} {f1 : Addr}
    (a1 : PySem.W.nsIn K mainGlobals "word_table" = some (some (.ref f1))) (l1 : K.lookup f1 = some ⟨oc1, od1, .func (PySem.W.fnOf "word_table" "word_table" (defArgs s_word_table) (defBody s_word_table) (defScope s_word_table) .none kV1 dc1 pm1 an1 cd1 ct1), sl1⟩) (c1 : PySem.W.codeIn K cd1 "word_table" = true) (k1 : PySem.W.keepIn K (.ref f1) = true)
    {od2 an2 : Option Addr} {sl2 : Array (Option Value)} {oc2 kV2 dc2 pm2 cd2 ct2 : Value} {f2 : Addr}
    (a2 : PySem.W.nsIn K mainGlobals "told_fraction" = some (some (.ref f2))) (l2 : K.lookup f2 = some ⟨oc2, od2, .func (PySem.W.fnOf "told_fraction" "told_fraction" (defArgs s_told_fraction) (defBody s_told_fraction) (defScope s_told_fraction) .none kV2 dc2 pm2 an2 cd2 ct2), sl2⟩) (c2 : PySem.W.codeIn K cd2 "told_fraction" = true) (k2 : PySem.W.keepIn K (.ref f2) = true)
    {od3 an3 : Option Addr} {sl3 : Array (Option Value)} {oc3 kV3 dc3 pm3 cd3 ct3 : Value} {f3 : Addr}
    (a3 : PySem.W.nsIn K mainGlobals "state_fraction" = some (some (.ref f3))) (l3 : K.lookup f3 = some ⟨oc3, od3, .func (PySem.W.fnOf "state_fraction" "state_fraction" (defArgs s_state_fraction) (defBody s_state_fraction) (defScope s_state_fraction) .none kV3 dc3 pm3 an3 cd3 ct3), sl3⟩) (c3 : PySem.W.codeIn K cd3 "state_fraction" = true) (k3 : PySem.W.keepIn K (.ref f3) = true)
    {od4 an4 : Option Addr} {sl4 : Array (Option Value)} {oc4 kV4 dc4 pm4 cd4 ct4 : Value} {f4 : Addr}
    (a4 : PySem.W.nsIn K mainGlobals "is_told_state" = some (some (.ref f4))) (l4 : K.lookup f4 = some ⟨oc4, od4, .func (PySem.W.fnOf "is_told_state" "is_told_state" (defArgs s_is_told_state) (defBody s_is_told_state) (defScope s_is_told_state) .none kV4 dc4 pm4 an4 cd4 ct4), sl4⟩) (c4 : PySem.W.codeIn K cd4 "is_told_state" = true) (k4 : PySem.W.keepIn K (.ref f4) = true)
    {od5 an5 : Option Addr} {sl5 : Array (Option Value)} {oc5 kV5 dc5 pm5 cd5 ct5 : Value} {f5 : Addr}
    (a5 : PySem.W.nsIn K mainGlobals "state_of_fraction" = some (some (.ref f5))) (l5 : K.lookup f5 = some ⟨oc5, od5, .func (PySem.W.fnOf "state_of_fraction" "state_of_fraction" (defArgs s_state_of_fraction) (defBody s_state_of_fraction) (defScope s_state_of_fraction) .none kV5 dc5 pm5 an5 cd5 ct5), sl5⟩) (c5 : PySem.W.codeIn K cd5 "state_of_fraction" = true) (k5 : PySem.W.keepIn K (.ref f5) = true)
    {od6 an6 : Option Addr} {sl6 : Array (Option Value)} {oc6 kV6 dc6 pm6 cd6 ct6 : Value} {f6 : Addr}
    (a6 : PySem.W.nsIn K mainGlobals "_law_source" = some (some (.ref f6))) (l6 : K.lookup f6 = some ⟨oc6, od6, .func (PySem.W.fnOf "_law_source" "_law_source" (defArgs s__law_source) (defBody s__law_source) (defScope s__law_source) .none kV6 dc6 pm6 an6 cd6 ct6), sl6⟩) (c6 : PySem.W.codeIn K cd6 "_law_source" = true) (k6 : PySem.W.keepIn K (.ref f6) = true)
    {od7 an7 : Option Addr} {sl7 : Array (Option Value)} {oc7 kV7 dc7 pm7 cd7 ct7 : Value} {f7 : Addr}
    (a7 : PySem.W.nsIn K mainGlobals "_law_pick" = some (some (.ref f7))) (l7 : K.lookup f7 = some ⟨oc7, od7, .func (PySem.W.fnOf "_law_pick" "_law_pick" (defArgs s__law_pick) (defBody s__law_pick) (defScope s__law_pick) .none kV7 dc7 pm7 an7 cd7 ct7), sl7⟩) (c7 : PySem.W.codeIn K cd7 "_law_pick" = true) (k7 : PySem.W.keepIn K (.ref f7) = true)
    {od8 an8 : Option Addr} {sl8 : Array (Option Value)} {oc8 kV8 dc8 pm8 cd8 ct8 : Value} {f8 : Addr}
    (a8 : PySem.W.nsIn K mainGlobals "_law_of_fraction" = some (some (.ref f8))) (l8 : K.lookup f8 = some ⟨oc8, od8, .func (PySem.W.fnOf "_law_of_fraction" "_law_of_fraction" (defArgs s__law_of_fraction) (defBody s__law_of_fraction) (defScope s__law_of_fraction) .none kV8 dc8 pm8 an8 cd8 ct8), sl8⟩) (c8 : PySem.W.codeIn K cd8 "_law_of_fraction" = true) (k8 : PySem.W.keepIn K (.ref f8) = true)
    {od9 an9 : Option Addr} {sl9 : Array (Option Value)} {oc9 kV9 dc9 pm9 cd9 ct9 : Value} {f9 : Addr}
    (a9 : PySem.W.nsIn K mainGlobals "_law_told" = some (some (.ref f9))) (l9 : K.lookup f9 = some ⟨oc9, od9, .func (PySem.W.fnOf "_law_told" "_law_told" (defArgs s__law_told) (defBody s__law_told) (defScope s__law_told) .none kV9 dc9 pm9 an9 cd9 ct9), sl9⟩) (c9 : PySem.W.codeIn K cd9 "_law_told" = true) (k9 : PySem.W.keepIn K (.ref f9) = true)
    {od10 an10 : Option Addr} {sl10 : Array (Option Value)} {oc10 kV10 dc10 pm10 cd10 ct10 : Value} {f10 : Addr}
    (a10 : PySem.W.nsIn K mainGlobals "_law_common" = some (some (.ref f10))) (l10 : K.lookup f10 = some ⟨oc10, od10, .func (PySem.W.fnOf "_law_common" "_law_common" (defArgs s__law_common) (defBody s__law_common) (defScope s__law_common) .none kV10 dc10 pm10 an10 cd10 ct10), sl10⟩) (c10 : PySem.W.codeIn K cd10 "_law_common" = true) (k10 : PySem.W.keepIn K (.ref f10) = true)
    {od11 an11 : Option Addr} {sl11 : Array (Option Value)} {oc11 kV11 dc11 pm11 cd11 ct11 : Value} {f11 : Addr}
    (a11 : PySem.W.nsIn K mainGlobals "law" = some (some (.ref f11))) (l11 : K.lookup f11 = some ⟨oc11, od11, .func (PySem.W.fnOf "law" "law" (defArgs s_law) (defBody s_law) (defScope s_law) .none kV11 dc11 pm11 an11 cd11 ct11), sl11⟩) (c11 : PySem.W.codeIn K cd11 "law" = true) (k11 : PySem.W.keepIn K (.ref f11) = true)
    (w_abs : PySem.W.nsIn K mainGlobals "abs" = some none)
    (w_int : PySem.W.nsIn K mainGlobals "int" = some none)
    (w_len : PySem.W.nsIn K mainGlobals "len" = some none)
    (w_max : PySem.W.nsIn K mainGlobals "max" = some none)
    (w_range : PySem.W.nsIn K mainGlobals "range" = some none)
    (w_repr : PySem.W.nsIn K mainGlobals "repr" = some none)
    (w_tuple : PySem.W.nsIn K mainGlobals "tuple" = some none)
    {C_NotOfIt : Addr} (e1_NotOfIt : PySem.W.nsIn K mainGlobals "NotOfIt" = some (some (.ref C_NotOfIt))) (e2_NotOfIt : PySem.W.excIn K C_NotOfIt [.type "ValueError", .type "Exception", .type "BaseException", .type "object"] "ValueError.__new__" = true) (e3_NotOfIt : PySem.W.keepIn K (.ref C_NotOfIt) = true) (e4_NotOfIt : PySem.W.subIn K (.ref C_NotOfIt) (.type "BaseException") = some true) (e5_NotOfIt : PySem.W.typeIn K (.ref C_NotOfIt) = some (.type "type")) (e6_NotOfIt : PySem.W.isClsIn K C_NotOfIt = true) (e7_NotOfIt : PySem.W.subIn K (.ref C_NotOfIt) (.ref C_NotOfIt) = some true)
    : FnD P w K mg base 4 "law" [.frz] .frz m_law := by
  have z_abs : mg "abs" = none := PySem.W.mg_none_of X G w_abs
  have z_int : mg "int" = none := PySem.W.mg_none_of X G w_int
  have z_len : mg "len" = none := PySem.W.mg_none_of X G w_len
  have z_max : mg "max" = none := PySem.W.mg_none_of X G w_max
  have z_range : mg "range" = none := PySem.W.mg_none_of X G w_range
  have z_repr : mg "repr" = none := PySem.W.mg_none_of X G w_repr
  have z_tuple : mg "tuple" = none := PySem.W.mg_none_of X G w_tuple
  have E_NotOfIt : ExcF K mg "NotOfIt" C_NotOfIt := ExcF.mk2 (PySem.W.mg_of X G e1_NotOfIt) e2_NotOfIt e3_NotOfIt e4_NotOfIt e5_NotOfIt e6_NotOfIt e7_NotOfIt
  have D_sign_of_letter := ok_sign_of_letter (P := P) (w := w) (base := base) (k := 0) (fun_mk (st := s_sign_of_letter) l0 c0 k0) (PySem.W.mg_of X G a0)
  have D_word_table := ok_word_table (P := P) (w := w) (base := base) (k := 1) (fun_mk (st := s_word_table) l1 c1 k1) (PySem.W.mg_of X G a1) (D_sign_of_letter.up (by decide)) z_abs
  have D_told_fraction := ok_told_fraction (P := P) (w := w) (base := base) (k := 0) (fun_mk (st := s_told_fraction) l2 c2 k2) (PySem.W.mg_of X G a2)
  have D_state_fraction := ok_state_fraction (P := P) (w := w) (base := base) (k := 2) (fun_mk (st := s_state_fraction) l3 c3 k3) (PySem.W.mg_of X G a3) (D_word_table.up (by decide)) (D_told_fraction.up (by decide))
  have D_is_told_state := ok_is_told_state (P := P) (w := w) (base := base) (k := 1) (fun_mk (st := s_is_told_state) l4 c4 k4) (PySem.W.mg_of X G a4) (D_sign_of_letter.up (by decide)) z_abs
  have D_state_of_fraction := ok_state_of_fraction (P := P) (w := w) (base := base) (k := 0) (fun_mk (st := s_state_of_fraction) l5 c5 k5) (PySem.W.mg_of X G a5) z_abs z_tuple
  have X_state_of_fraction := okx_state_of_fraction (P := P) (w := w) (base := base) (k := 0) (fun_mk (st := s_state_of_fraction) l5 c5 k5) (PySem.W.mg_of X G a5) E_NotOfIt z_abs
  have D__law_source := ok__law_source (P := P) (w := w) (base := base) (k := 0) (fun_mk (st := s__law_source) l6 c6 k6) (PySem.W.mg_of X G a6) z_abs z_int
  have D__law_pick := ok__law_pick (P := P) (w := w) (base := base) (k := 0) (fun_mk (st := s__law_pick) l7 c7 k7) (PySem.W.mg_of X G a7) z_int z_len z_max
  have D__law_of_fraction := ok__law_of_fraction (P := P) (w := w) (base := base) (k := 0) (fun_mk (st := s__law_of_fraction) l8 c8 k8) (PySem.W.mg_of X G a8) z_abs
  have D__law_told := ok__law_told (P := P) (w := w) (base := base) (k := 1) (fun_mk (st := s__law_told) l9 c9 k9) (PySem.W.mg_of X G a9) (D_state_of_fraction.up (by decide)) E_NotOfIt (X_state_of_fraction.up (by decide))
  have D__law_common := ok__law_common (P := P) (w := w) (base := base) (k := 0) (fun_mk (st := s__law_common) l10 c10 k10) (PySem.W.mg_of X G a10) z_abs z_int
  have D_law := ok_law (P := P) (w := w) (base := base) (k := 3) (fun_mk (st := s_law) l11 c11 k11) (PySem.W.mg_of X G a11) (D__law_source.up (by decide)) (D__law_pick.up (by decide)) (D__law_common.up (by decide)) (D__law_of_fraction.up (by decide)) (D__law_told.up (by decide)) (D_state_fraction.up (by decide)) (D_is_told_state.up (by decide)) (D_state_of_fraction.up (by decide)) z_len z_range z_repr
  exact D_law
end K48

namespace K48
open PySem PySem.Spec PyProof.Rows L2 DL
/-! typed functions of law_k48_whole_states_of_fractions -/
theorem k__law_pick : FTS (α := Int × Unit) m_law_pick 1 (fC eI f0) eI (fun p s => pickT p.1 s) := pick_fts
theorem k__law_source : FT (α := List Int × Unit) m_law_source 1 (fC (eL eI) f0) eX (fun p => sourceT p.1) := source_ft
def t_sign_of_letter (letter : Int) : Option Int := (some (if (decide (0 < letter)) = true then 1 else (-1)))
theorem k_sign_of_letter : FT m_sign_of_letter 1 (fC eI f0) eI (fun p_ => t_sign_of_letter p_.1) :=
  ft_ofK rfl (fun _ => rfl) rfl (by decide) (fun (letter, ()) => by
    unfold t_sign_of_letter
    refine xb_weak (L' := [(some (some (eI letter)))]) ?_ ⟨rfl, trivial⟩
    exact (xb_retI (rv_ok rfl) (XP.w (x_cv (t' := some (if (decide (0 < letter)) = true then 1 else (-1))) (x_ifT (ea := eI) (xt_test (x_cv (t' := some (decide (0 < letter))) (x_bin (ea := eI) (eb := eI) (ec := eB) (f := (fun a_ b_ => some ((decide (b_ < a_))))) q_gt (xo_val (x_var (ea := eI) (v := letter) rfl)) (xo_val (x_c (ea := eI) (v := 0) rfl)) okf) rfl)) (x_c (ea := eI) (v := 1) rfl) (x_cv (t' := some (-1)) (x_un (ea := eI) (ec := eI) (f := fun a_ => some (-a_)) q_neg (xo_val (x_c (ea := eI) (v := 1) rfl)) okf) rfl)) rfl))))
def l0_word_table  (st : (Int × Int × Int × Int)) (y : Int) : Option (Int × Int × Int × Int) := Option.bind (t_sign_of_letter y) fun sign => if (decide ((if y < 0 then -y else y) = 1)) = true then (Option.bind (Option.bind (Option.bind (mulT sign st.2.2.1) fun x => some ((st.1 + x))) fun x_2 => Option.bind (Option.bind (mulT sign st.2.2.2) fun x_1 => some ((st.2.1 + x_1))) fun x_3 => some ((x_2, x_3, ()))) fun q_1 => some (q_1.1, q_1.2.1, st.2.2.1, st.2.2.2)) else (Option.bind (Option.bind (Option.bind (mulT sign st.1) fun x_4 => some ((st.2.2.1 + x_4))) fun x_6 => Option.bind (Option.bind (mulT sign st.2.1) fun x_5 => some ((st.2.2.2 + x_5))) fun x_7 => some ((x_6, x_7, ()))) fun q_2 => some (st.1, st.2.1, q_2.1, q_2.2.1))
def t_word_table (word : (List Int)) : Option ((Int × Int) × (Int × Int)) := Option.bind (some (1, 0, 0, 1)) fun q => Option.bind (α := (Int × Int × Int × Int)) (Option.bind (some word) fun x_ => forP l0_word_table x_ (q.1, q.2.1, q.2.2.1, q.2.2.2)) fun st_1 => (some ((st_1.1, st_1.2.1), (st_1.2.2.1, st_1.2.2.2)))
theorem k_word_table : FT m_word_table 1 (fC (eT eI) f0) (eTu (fC (eTu (fC eI (f1 eI))) (f1 (eTu (fC eI (f1 eI)))))) (fun p_ => t_word_table p_.1) :=
  ft_ofK rfl (fun _ => rfl) rfl (by decide) (fun (word, ()) => by
    unfold t_word_table
    refine xb_weak (L' := [(some (some ((eT eI) word))), (some none), (some none), (some none), (some none), (some none), (some none)]) ?_ ⟨rfl, rfl, rfl, rfl, rfl, rfl, rfl, trivial⟩
    refine xb_asg (ea := (eTu (fC eI (fC eI (fC eI (f1 eI)))))) ?_ (fun q => (xg_tu rfl (xg_cons xg_nm (xg_cons xg_nm (xg_cons xg_nm (xg_cons xg_nm xg_nil)))))) fun q => ?_
    · exact (x_cv (t' := some (1, 0, 0, 1)) (x_up (ea := (eTu (fC eI (fC eI (fC eI (fC eI f0)))))) (eb := (eTu (fC eI (fC eI (fC eI (f1 eI)))))) (fun x_ => (x_.1, x_.2.1, x_.2.2.1, x_.2.2.2.1)) (fun _ => rfl) (x_tup (xa_cv (t' := some (1, 0, 0, 1, ())) (xa_cons (o1 := false) (o2 := false) (xo_val (x_c (ea := eI) (v := 1) rfl)) (xa_cons (o1 := false) (o2 := false) (xo_val (x_c (ea := eI) (v := 0) rfl)) (xa_cons (o1 := false) (o2 := false) (xo_val (x_c (ea := eI) (v := 0) rfl)) (xa_cons (o1 := false) (o2 := false) (xo_val (x_c (ea := eI) (v := 1) rfl)) xa_nil)))) rfl) (fun _ => (by decide : 4 ≤ 1000)))) rfl)
    · refine xb_weak (L' := [(some (some ((eT eI) word))), (some none), (some (some (eI q.1))), (some (some (eI q.2.1))), (some (some (eI q.2.2.1))), (some (some (eI q.2.2.2))), (some none)]) ?_ ⟨rfl, rfl, rfl, rfl, rfl, rfl, rfl, trivial⟩
      refine xb_thn (σ := (Int × Int × Int × Int)) (env := (fun (st_ : (Int × Int × Int × Int)) => [(some (some ((eT eI) word))), none, (some (some (eI st_.1))), (some (some (eI st_.2.1))), (some (some (eI st_.2.2.1))), (some (some (eI st_.2.2.2))), none])) ?_ fun st_1 => ?_
      · refine xb_for (ea := eI) (env := (fun (st_ : (Int × Int × Int × Int)) => [(some (some ((eT eI) word))), none, (some (some (eI st_.1))), (some (some (eI st_.2.1))), (some (some (eI st_.2.2.1))), (some (some (eI st_.2.2.2))), none])) (f := l0_word_table) (s0 := (q.1, q.2.1, q.2.2.1, q.2.2.2)) (L := [(some (some ((eT eI) word))), (some none), (some (some (eI q.1))), (some (some (eI q.2.1))), (some (some (eI q.2.2.1))), (some (some (eI q.2.2.2))), (some none)]) ?_ ⟨rfl, rfl, rfl, rfl, rfl, trivial⟩ (fun st y => xg_nm) (fun st y => ?_)
        · exact (xi2 (xi_tup (ea := eI) (x_var (ea := (eT eI)) (v := word) rfl)))
        · unfold l0_word_table
          refine xb_weak (L' := [(some (some ((eT eI) word))), (some (some (eI y))), (some (some (eI st.1))), (some (some (eI st.2.1))), (some (some (eI st.2.2.1))), (some (some (eI st.2.2.2))), none]) ?_ ⟨rfl, rfl, rfl, rfl, rfl, rfl, trivial⟩
          refine xb_asg (ea := eI) ?_ (fun sign => xg_nm) fun sign => ?_
          · exact (x_callT (f := (fun (p_ : Int × Unit) => t_sign_of_letter p_.1)) (p := (y, ())) k_sign_of_letter (xa_cv (t' := some (y, ())) (xa_cons (o1 := false) (o2 := false) (xo_val (x_var (ea := eI) (v := y) rfl)) xa_nil) rfl) okk)
          · refine xb_weak (L' := [(some (some ((eT eI) word))), (some (some (eI y))), (some (some (eI st.1))), (some (some (eI st.2.1))), (some (some (eI st.2.2.1))), (some (some (eI st.2.2.2))), (some (some (eI sign)))]) ?_ ⟨rfl, rfl, rfl, rfl, rfl, rfl, rfl, trivial⟩
            refine xb_ifT ?_ ?_ ?_
            · exact (xt_test (x_cv (t' := some (decide ((if y < 0 then -y else y) = 1))) (x_bin (ea := eI) (eb := eI) (ec := eB) (f := (fun a_ b_ => some ((decide (a_ = b_))))) (q_eqE (q_eq eqI)) (xo_val (x_cv (t' := some (if y < 0 then -y else y)) (x_callB (ec := eI) (f := (fun (p_ : Int × Unit) => some ((if p_.1 < 0 then -p_.1 else p_.1)))) q_abs (xa_cons (o1 := false) (o2 := false) (xo_val (x_var (ea := eI) (v := y) rfl)) xa_nil) okf) rfl)) (xo_val (x_c (ea := eI) (v := 1) rfl)) okf) rfl))
            · refine xb_weak (L' := [(some (some ((eT eI) word))), (some (some (eI y))), (some (some (eI st.1))), (some (some (eI st.2.1))), (some (some (eI st.2.2.1))), (some (some (eI st.2.2.2))), (some (some (eI sign)))]) ?_ ⟨rfl, rfl, rfl, rfl, rfl, rfl, rfl, trivial⟩
              refine xb_seq_nx ?_
              refine xb_par (fs := (fC eI (fC eI f0))) ?_ fun q_1 => ?_
              · exact (xm_cv (t' := (Option.bind (Option.bind (mulT sign st.2.2.1) fun x => some ((st.1 + x))) fun x_2 => Option.bind (Option.bind (mulT sign st.2.2.2) fun x_1 => some ((st.2.1 + x_1))) fun x_3 => some ((x_2, x_3, ())))) (xm_cons (ea := eI) (x_cv (t' := (Option.bind (mulT sign st.2.2.1) fun x => some ((st.1 + x)))) (x_bin (ea := eI) (eb := eI) (ec := eI) (f := (fun a_ b_ => some ((a_ + b_)))) q_add (xo_val (x_var (ea := eI) (v := st.1) rfl)) (xo_val (x_binT (ea := eI) (eb := eI) (ec := eI) (f := (fun a_ b_ => mulT a_ b_)) (a := sign) (b := st.2.2.1) q_mul (xo_val (x_var (ea := eI) (v := sign) rfl)) (xo_val (x_var (ea := eI) (v := st.2.2.1) rfl)) okf)) okf) (by first | with_reducible rfl | simp -implicitDefEqProofs only [Option.map_eq_bind, Option.bind_assoc, Option.bind_some, Function.comp_def] | rfl)) (xm_cons (ea := eI) (x_cv (t' := (Option.bind (mulT sign st.2.2.2) fun x_1 => some ((st.2.1 + x_1)))) (x_bin (ea := eI) (eb := eI) (ec := eI) (f := (fun a_ b_ => some ((a_ + b_)))) q_add (xo_val (x_var (ea := eI) (v := st.2.1) rfl)) (xo_val (x_binT (ea := eI) (eb := eI) (ec := eI) (f := (fun a_ b_ => mulT a_ b_)) (a := sign) (b := st.2.2.2) q_mul (xo_val (x_var (ea := eI) (v := sign) rfl)) (xo_val (x_var (ea := eI) (v := st.2.2.2) rfl)) okf)) okf) (by first | with_reducible rfl | simp -implicitDefEqProofs only [Option.map_eq_bind, Option.bind_assoc, Option.bind_some, Function.comp_def] | rfl)) xm_nil)) (by first | with_reducible rfl | simp -implicitDefEqProofs only [Option.map_eq_bind, Option.bind_assoc, Option.bind_some, Function.comp_def] | rfl))
              · refine xb_weak (L' := [(some (some ((eT eI) word))), (some (some (eI y))), (some (some (eI q_1.1))), (some (some (eI q_1.2.1))), (some (some (eI st.2.2.1))), (some (some (eI st.2.2.2))), (some (some (eI sign)))]) ?_ ⟨rfl, rfl, rfl, rfl, rfl, rfl, rfl, trivial⟩
                exact (xb_nx (env := (fun (st_ : (Int × Int × Int × Int)) => [(some (some ((eT eI) word))), none, (some (some (eI st_.1))), (some (some (eI st_.2.1))), (some (some (eI st_.2.2.1))), (some (some (eI st_.2.2.2))), none])) (s := (q_1.1, q_1.2.1, st.2.2.1, st.2.2.2)) ⟨rfl, rfl, rfl, rfl, rfl, trivial⟩)
            · refine xb_weak (L' := [(some (some ((eT eI) word))), (some (some (eI y))), (some (some (eI st.1))), (some (some (eI st.2.1))), (some (some (eI st.2.2.1))), (some (some (eI st.2.2.2))), (some (some (eI sign)))]) ?_ ⟨rfl, rfl, rfl, rfl, rfl, rfl, rfl, trivial⟩
              refine xb_seq_nx ?_
              refine xb_par (fs := (fC eI (fC eI f0))) ?_ fun q_2 => ?_
              · exact (xm_cv (t' := (Option.bind (Option.bind (mulT sign st.1) fun x_4 => some ((st.2.2.1 + x_4))) fun x_6 => Option.bind (Option.bind (mulT sign st.2.1) fun x_5 => some ((st.2.2.2 + x_5))) fun x_7 => some ((x_6, x_7, ())))) (xm_cons (ea := eI) (x_cv (t' := (Option.bind (mulT sign st.1) fun x_4 => some ((st.2.2.1 + x_4)))) (x_bin (ea := eI) (eb := eI) (ec := eI) (f := (fun a_ b_ => some ((a_ + b_)))) q_add (xo_val (x_var (ea := eI) (v := st.2.2.1) rfl)) (xo_val (x_binT (ea := eI) (eb := eI) (ec := eI) (f := (fun a_ b_ => mulT a_ b_)) (a := sign) (b := st.1) q_mul (xo_val (x_var (ea := eI) (v := sign) rfl)) (xo_val (x_var (ea := eI) (v := st.1) rfl)) okf)) okf) (by first | with_reducible rfl | simp -implicitDefEqProofs only [Option.map_eq_bind, Option.bind_assoc, Option.bind_some, Function.comp_def] | rfl)) (xm_cons (ea := eI) (x_cv (t' := (Option.bind (mulT sign st.2.1) fun x_5 => some ((st.2.2.2 + x_5)))) (x_bin (ea := eI) (eb := eI) (ec := eI) (f := (fun a_ b_ => some ((a_ + b_)))) q_add (xo_val (x_var (ea := eI) (v := st.2.2.2) rfl)) (xo_val (x_binT (ea := eI) (eb := eI) (ec := eI) (f := (fun a_ b_ => mulT a_ b_)) (a := sign) (b := st.2.1) q_mul (xo_val (x_var (ea := eI) (v := sign) rfl)) (xo_val (x_var (ea := eI) (v := st.2.1) rfl)) okf)) okf) (by first | with_reducible rfl | simp -implicitDefEqProofs only [Option.map_eq_bind, Option.bind_assoc, Option.bind_some, Function.comp_def] | rfl)) xm_nil)) (by first | with_reducible rfl | simp -implicitDefEqProofs only [Option.map_eq_bind, Option.bind_assoc, Option.bind_some, Function.comp_def] | rfl))
              · refine xb_weak (L' := [(some (some ((eT eI) word))), (some (some (eI y))), (some (some (eI st.1))), (some (some (eI st.2.1))), (some (some (eI q_2.1))), (some (some (eI q_2.2.1))), (some (some (eI sign)))]) ?_ ⟨rfl, rfl, rfl, rfl, rfl, rfl, rfl, trivial⟩
                exact (xb_nx (env := (fun (st_ : (Int × Int × Int × Int)) => [(some (some ((eT eI) word))), none, (some (some (eI st_.1))), (some (some (eI st_.2.1))), (some (some (eI st_.2.2.1))), (some (some (eI st_.2.2.2))), none])) (s := (st.1, st.2.1, q_2.1, q_2.2.1)) ⟨rfl, rfl, rfl, rfl, rfl, trivial⟩)
      · refine xb_weak (L' := [(some (some ((eT eI) word))), none, (some (some (eI st_1.1))), (some (some (eI st_1.2.1))), (some (some (eI st_1.2.2.1))), (some (some (eI st_1.2.2.2))), none]) ?_ ⟨rfl, rfl, rfl, rfl, rfl, trivial⟩
        exact (xb_retI (rv_ok rfl) (XP.w (x_cv (t' := some ((st_1.1, st_1.2.1), (st_1.2.2.1, st_1.2.2.2))) (x_up (ea := (eTu (fC (eTu (fC eI (f1 eI))) (fC (eTu (fC eI (f1 eI))) f0)))) (eb := (eTu (fC (eTu (fC eI (f1 eI))) (f1 (eTu (fC eI (f1 eI))))))) (fun x_ => (x_.1, x_.2.1)) (fun _ => rfl) (x_tup (xa_cv (t' := some ((st_1.1, st_1.2.1), (st_1.2.2.1, st_1.2.2.2), ())) (xa_cons (o1 := false) (o2 := false) (xo_val (x_cv (t' := some (st_1.1, st_1.2.1)) (x_up (ea := (eTu (fC eI (fC eI f0)))) (eb := (eTu (fC eI (f1 eI)))) (fun x_ => (x_.1, x_.2.1)) (fun _ => rfl) (x_tup (xa_cv (t' := some (st_1.1, st_1.2.1, ())) (xa_cons (o1 := false) (o2 := false) (xo_val (x_var (ea := eI) (v := st_1.1) rfl)) (xa_cons (o1 := false) (o2 := false) (xo_val (x_var (ea := eI) (v := st_1.2.1) rfl)) xa_nil)) rfl) (fun _ => (by decide : 2 ≤ 1000)))) rfl)) (xa_cons (o1 := false) (o2 := false) (xo_val (x_cv (t' := some (st_1.2.2.1, st_1.2.2.2)) (x_up (ea := (eTu (fC eI (fC eI f0)))) (eb := (eTu (fC eI (f1 eI)))) (fun x_ => (x_.1, x_.2.1)) (fun _ => rfl) (x_tup (xa_cv (t' := some (st_1.2.2.1, st_1.2.2.2, ())) (xa_cons (o1 := false) (o2 := false) (xo_val (x_var (ea := eI) (v := st_1.2.2.1) rfl)) (xa_cons (o1 := false) (o2 := false) (xo_val (x_var (ea := eI) (v := st_1.2.2.2) rfl)) xa_nil)) rfl) (fun _ => (by decide : 2 ≤ 1000)))) rfl)) xa_nil)) rfl) (fun _ => (by decide : 2 ≤ 1000)))) rfl))))
def t_told_fraction (p : Int) (q : Int) : Option (Int × Int) := (some (if ((decide (p < 0)) || ((decide (p = 0)) && (decide (q < 0)))) = true then ((-p), (-q)) else (p, q)))
theorem k_told_fraction : FT m_told_fraction 2 (fC eI (fC eI f0)) (eTu (fC eI (f1 eI))) (fun p_ => t_told_fraction p_.1 p_.2.1) :=
  ft_ofK rfl (fun _ => rfl) rfl (by decide) (fun (p, q, ()) => by
    unfold t_told_fraction
    refine xb_weak (L' := [(some (some (eI p))), (some (some (eI q)))]) ?_ ⟨rfl, rfl, trivial⟩
    exact (xb_retI (rv_ok rfl) (XP.w (x_cv (t' := some (if ((decide (p < 0)) || ((decide (p = 0)) && (decide (q < 0)))) = true then ((-p), (-q)) else (p, q))) (x_ifT (ea := (eTu (fC eI (f1 eI)))) (xt_cv (t' := some ((decide (p < 0)) || ((decide (p = 0)) && (decide (q < 0))))) (xt_orT (xt_test (x_cv (t' := some (decide (p < 0))) (x_bin (ea := eI) (eb := eI) (ec := eB) (f := (fun a_ b_ => some ((decide (a_ < b_))))) q_lt (xo_val (x_var (ea := eI) (v := p) rfl)) (xo_val (x_c (ea := eI) (v := 0) rfl)) okf) rfl)) (xt_cv (t' := some ((decide (p = 0)) && (decide (q < 0)))) (xt_andT (xt_test (x_cv (t' := some (decide (p = 0))) (x_bin (ea := eI) (eb := eI) (ec := eB) (f := (fun a_ b_ => some ((decide (a_ = b_))))) (q_eqE (q_eq eqI)) (xo_val (x_var (ea := eI) (v := p) rfl)) (xo_val (x_c (ea := eI) (v := 0) rfl)) okf) rfl)) (xt_test (x_cv (t' := some (decide (q < 0))) (x_bin (ea := eI) (eb := eI) (ec := eB) (f := (fun a_ b_ => some ((decide (a_ < b_))))) q_lt (xo_val (x_var (ea := eI) (v := q) rfl)) (xo_val (x_c (ea := eI) (v := 0) rfl)) okf) rfl))) rfl)) rfl) (x_cv (t' := some ((-p), (-q))) (x_up (ea := (eTu (fC eI (fC eI f0)))) (eb := (eTu (fC eI (f1 eI)))) (fun x_ => (x_.1, x_.2.1)) (fun _ => rfl) (x_tup (xa_cv (t' := some ((-p), (-q), ())) (xa_cons (o1 := false) (o2 := false) (xo_val (x_cv (t' := some (-p)) (x_un (ea := eI) (ec := eI) (f := fun a_ => some (-a_)) q_neg (xo_val (x_var (ea := eI) (v := p) rfl)) okf) rfl)) (xa_cons (o1 := false) (o2 := false) (xo_val (x_cv (t' := some (-q)) (x_un (ea := eI) (ec := eI) (f := fun a_ => some (-a_)) q_neg (xo_val (x_var (ea := eI) (v := q) rfl)) okf) rfl)) xa_nil)) rfl) (fun _ => (by decide : 2 ≤ 1000)))) rfl) (x_cv (t' := some (p, q)) (x_up (ea := (eTu (fC eI (fC eI f0)))) (eb := (eTu (fC eI (f1 eI)))) (fun x_ => (x_.1, x_.2.1)) (fun _ => rfl) (x_tup (xa_cv (t' := some (p, q, ())) (xa_cons (o1 := false) (o2 := false) (xo_val (x_var (ea := eI) (v := p) rfl)) (xa_cons (o1 := false) (o2 := false) (xo_val (x_var (ea := eI) (v := q) rfl)) xa_nil)) rfl) (fun _ => (by decide : 2 ≤ 1000)))) rfl)) rfl))))
def t_state_fraction (state : (Int × (List Int))) : Option (Int × Int) := Option.bind (t_word_table state.2) fun q => (if (decide (state.1 = 1)) = true then t_told_fraction q.1.1 q.2.1 else t_told_fraction q.1.2 q.2.2)
theorem k_state_fraction : FT m_state_fraction 1 (fC (eTu (fC eI (f1 (eT eI)))) f0) (eTu (fC eI (f1 eI))) (fun p_ => t_state_fraction p_.1) :=
  ft_ofK rfl (fun _ => rfl) rfl (by decide) (fun (state, ()) => by
    unfold t_state_fraction
    refine xb_weak (L' := [(some (some ((eTu (fC eI (f1 (eT eI)))) state))), (some none), (some none), (some none), (some none)]) ?_ ⟨rfl, rfl, rfl, rfl, rfl, trivial⟩
    refine xb_asg (ea := (eTu (fC (eTu (fC eI (f1 eI))) (f1 (eTu (fC eI (f1 eI))))))) ?_ (fun q => (xg_tu rfl (xg_cons (xg_tu rfl (xg_cons xg_nm (xg_cons xg_nm xg_nil))) (xg_cons (xg_tu rfl (xg_cons xg_nm (xg_cons xg_nm xg_nil))) xg_nil)))) fun q => ?_
    · exact (x_callT (f := (fun (p_ : (List Int) × Unit) => t_word_table p_.1)) (p := (state.2, ())) k_word_table (xa_cv (t' := some (state.2, ())) (xa_cons (o1 := false) (o2 := false) (xo_val (x_cv (t' := some state.2) (x_proj (ea := (eTu (fC eI (f1 (eT eI))))) (eb := (eT eI)) (f := fun a_ => a_.2) (fun _ => rfl) (xo_val (x_var (ea := (eTu (fC eI (f1 (eT eI))))) (v := state) rfl)) okf) rfl)) xa_nil) rfl) okk)
    · refine xb_weak (L' := [(some (some ((eTu (fC eI (f1 (eT eI)))) state))), (some (some (eI q.1.1))), (some (some (eI q.1.2))), (some (some (eI q.2.1))), (some (some (eI q.2.2)))]) ?_ ⟨rfl, rfl, rfl, rfl, rfl, trivial⟩
      exact (xb_retI (rv_ok rfl) (XP.w (x_cv (t' := (if (decide (state.1 = 1)) = true then t_told_fraction q.1.1 q.2.1 else t_told_fraction q.1.2 q.2.2)) (x_if (ea := (eTu (fC eI (f1 eI)))) (xt_test (x_cv (t' := some (decide (state.1 = 1))) (x_bin (ea := eI) (eb := eI) (ec := eB) (f := (fun a_ b_ => some ((decide (a_ = b_))))) (q_eqE (q_eq eqI)) (xo_val (x_cv (t' := some state.1) (x_proj (ea := (eTu (fC eI (f1 (eT eI))))) (eb := eI) (f := fun a_ => a_.1) (fun _ => rfl) (xo_val (x_var (ea := (eTu (fC eI (f1 (eT eI))))) (v := state) rfl)) okf) rfl)) (xo_val (x_c (ea := eI) (v := 1) rfl)) okf) rfl)) (x_callT (f := (fun (p_ : Int × Int × Unit) => t_told_fraction p_.1 p_.2.1)) (p := (q.1.1, q.2.1, ())) k_told_fraction (xa_cv (t' := some (q.1.1, q.2.1, ())) (xa_cons (o1 := false) (o2 := false) (xo_val (x_var (ea := eI) (v := q.1.1) rfl)) (xa_cons (o1 := false) (o2 := false) (xo_val (x_var (ea := eI) (v := q.2.1) rfl)) xa_nil)) rfl) okk) (x_callT (f := (fun (p_ : Int × Int × Unit) => t_told_fraction p_.1 p_.2.1)) (p := (q.1.2, q.2.2, ())) k_told_fraction (xa_cv (t' := some (q.1.2, q.2.2, ())) (xa_cons (o1 := false) (o2 := false) (xo_val (x_var (ea := eI) (v := q.1.2) rfl)) (xa_cons (o1 := false) (o2 := false) (xo_val (x_var (ea := eI) (v := q.2.2) rfl)) xa_nil)) rfl) okk)) rfl))))
def t_is_told_state (state : (Int × (List Int))) : Option Bool := if ((decide (state.1 = 1)) || (decide (state.2 = ([] : (List Int))))) = true then ((some (decide (state.2 = ([] : (List Int)))))) else (Option.bind (Option.bind (Option.bind (atI state.2 0) fun x => some ((if x < 0 then -x else x))) fun x_1 => some ((decide (x_1 = 1)))) fun x_ => if x_ = true then (Option.bind (compG (fun (y : Int) => (Option.bind (t_sign_of_letter y) fun x_2 => Option.bind (atI state.2 0) fun x_3 => some ((!decide (x_2 = x_3))))) (fun (y : Int) => (some y)) state.2) fun x_4 => some ((decide (x_4 = ([] : (List Int)))))) else some false)
theorem k_is_told_state : FT m_is_told_state 1 (fC (eTu (fC eI (f1 (eT eI)))) f0) eB (fun p_ => t_is_told_state p_.1) :=
  ft_ofK rfl (fun _ => rfl) rfl (by decide) (fun (state, ()) => by
    unfold t_is_told_state
    refine xb_weak (L' := [(some (some ((eTu (fC eI (f1 (eT eI)))) state))), (some none), (some none), (some none)]) ?_ ⟨rfl, rfl, rfl, rfl, trivial⟩
    refine xb_asgV (ea := (eTu (fC eI (f1 (eT eI))))) (v := state) ?_ (xg_tu rfl (xg_cons xg_nm (xg_cons xg_nm xg_nil))) ?_
    · exact (x_var (ea := (eTu (fC eI (f1 (eT eI))))) (v := state) rfl)
    · refine xb_weak (L' := [(some (some ((eTu (fC eI (f1 (eT eI)))) state))), (some (some (eI state.1))), (some (some ((eT eI) state.2))), (some none)]) ?_ ⟨rfl, rfl, rfl, rfl, trivial⟩
      refine xb_ifGT ?_ gone_ret ?_ ?_
      · exact (xt_cv (t' := some ((decide (state.1 = 1)) || (decide (state.2 = ([] : (List Int)))))) (xt_orT (xt_test (x_cv (t' := some (decide (state.1 = 1))) (x_bin (ea := eI) (eb := eI) (ec := eB) (f := (fun a_ b_ => some ((decide (a_ = b_))))) (q_eqE (q_eq eqI)) (xo_val (x_var (ea := eI) (v := state.1) rfl)) (xo_val (x_c (ea := eI) (v := 1) rfl)) okf) rfl)) (xt_test (x_cv (t' := some (decide (state.2 = ([] : (List Int))))) (x_bin (ea := (eT eI)) (eb := (eT eI)) (ec := eB) (f := (fun a_ b_ => some ((decide (a_ = b_))))) (q_eqE (q_eq (eqT eqI))) (xo_val (x_var (ea := (eT eI)) (v := state.2) rfl)) (xo_val (x_cv (t' := some ([] : (List Int))) (x_up (ea := (eTu f0)) (eb := (eT eI)) (fun x_ => []) (fun _ => rfl) (x_tup (xa_cv (t' := some (())) xa_nil rfl) (fun _ => (by decide : 0 ≤ 1000)))) rfl)) okf) rfl))) rfl)
      · refine xb_weak (L' := [(some (some ((eTu (fC eI (f1 (eT eI)))) state))), (some (some (eI state.1))), (some (some ((eT eI) state.2))), (some none)]) ?_ ⟨rfl, rfl, rfl, rfl, trivial⟩
        exact (xb_retI (rv_ok rfl) (XP.w (x_cv (t' := some (decide (state.2 = ([] : (List Int))))) (x_bin (ea := (eT eI)) (eb := (eT eI)) (ec := eB) (f := (fun a_ b_ => some ((decide (a_ = b_))))) (q_eqE (q_eq (eqT eqI))) (xo_val (x_var (ea := (eT eI)) (v := state.2) rfl)) (xo_val (x_cv (t' := some ([] : (List Int))) (x_up (ea := (eTu f0)) (eb := (eT eI)) (fun x_ => []) (fun _ => rfl) (x_tup (xa_cv (t' := some (())) xa_nil rfl) (fun _ => (by decide : 0 ≤ 1000)))) rfl)) okf) rfl)))
      · refine xb_weak (L' := [(some (some ((eTu (fC eI (f1 (eT eI)))) state))), (some (some (eI state.1))), (some (some ((eT eI) state.2))), (some none)]) ?_ ⟨rfl, rfl, rfl, rfl, trivial⟩
        exact (xb_retI (rv_ok rfl) (XP.w (x_cv (t' := (Option.bind (Option.bind (Option.bind (atI state.2 0) fun x => some ((if x < 0 then -x else x))) fun x_1 => some ((decide (x_1 = 1)))) fun x_ => if x_ = true then (Option.bind (compG (fun (y : Int) => (Option.bind (t_sign_of_letter y) fun x_2 => Option.bind (atI state.2 0) fun x_3 => some ((!decide (x_2 = x_3))))) (fun (y : Int) => (some y)) state.2) fun x_4 => some ((decide (x_4 = ([] : (List Int)))))) else some false)) (x_and (x_cv (t' := (Option.bind (Option.bind (atI state.2 0) fun x => some ((if x < 0 then -x else x))) fun x_1 => some ((decide (x_1 = 1))))) (x_bin (ea := eI) (eb := eI) (ec := eB) (f := (fun a_ b_ => some ((decide (a_ = b_))))) (q_eqE (q_eq eqI)) (xo_val (x_cv (t' := (Option.bind (atI state.2 0) fun x => some ((if x < 0 then -x else x)))) (x_callB (ec := eI) (f := (fun (p_ : Int × Unit) => some ((if p_.1 < 0 then -p_.1 else p_.1)))) q_abs (xa_cons (o1 := false) (o2 := false) (xo_val (x_binT (ea := (eT eI)) (eb := eI) (ec := eI) (f := (fun a_ b_ => atI a_ b_)) (a := state.2) (b := 0) q_itemT (xo_val (x_var (ea := (eT eI)) (v := state.2) rfl)) (xo_val (x_c (ea := eI) (v := 0) rfl)) okf)) xa_nil) okf) (by first | with_reducible rfl | simp -implicitDefEqProofs only [Option.map_eq_bind, Option.bind_assoc, Option.bind_some, Function.comp_def] | rfl))) (xo_val (x_c (ea := eI) (v := 1) rfl)) okf) (by first | with_reducible rfl | simp -implicitDefEqProofs only [Option.map_eq_bind, Option.bind_assoc, Option.bind_some, Function.comp_def] | rfl)) (x_cv (t' := (Option.bind (compG (fun (y : Int) => (Option.bind (t_sign_of_letter y) fun x_2 => Option.bind (atI state.2 0) fun x_3 => some ((!decide (x_2 = x_3))))) (fun (y : Int) => (some y)) state.2) fun x_4 => some ((decide (x_4 = ([] : (List Int))))))) (x_bin (ea := (eL eI)) (eb := (eL eI)) (ec := eB) (f := (fun a_ b_ => some ((decide (a_ = b_))))) (q_eqE (q_eq (eqL eqI))) (xo_val (x_compIT (ea := eI) (eb := eI) (p := fun (y : Int) => (Option.bind (t_sign_of_letter y) fun x_2 => Option.bind (atI state.2 0) fun x_3 => some ((!decide (x_2 = x_3))))) (f := fun (y : Int) => (some y)) (xi_tup (ea := eI) (x_var (ea := (eT eI)) (v := state.2) rfl)) (fun y => xg_nm) (fun y => ⟨rfl, rfl, rfl, rfl, trivial⟩) (fun y => (xt_test (x_cv (t' := (Option.bind (t_sign_of_letter y) fun x_2 => Option.bind (atI state.2 0) fun x_3 => some ((!decide (x_2 = x_3))))) (x_bin (ea := eI) (eb := eI) (ec := eB) (f := (fun a_ b_ => some ((!decide (a_ = b_))))) (q_ne eqI) (xo_val (x_callT (f := (fun (p_ : Int × Unit) => t_sign_of_letter p_.1)) (p := (y, ())) k_sign_of_letter (xa_cv (t' := some (y, ())) (xa_cons (o1 := false) (o2 := false) (xo_val (x_var (ea := eI) (v := y) rfl)) xa_nil) rfl) okk)) (xo_val (x_binT (ea := (eT eI)) (eb := eI) (ec := eI) (f := (fun a_ b_ => atI a_ b_)) (a := state.2) (b := 0) q_itemT (xo_val (x_var (ea := (eT eI)) (v := state.2) rfl)) (xo_val (x_c (ea := eI) (v := 0) rfl)) okf)) okf) (by first | with_reducible rfl | simp -implicitDefEqProofs only [Option.map_eq_bind, Option.bind_assoc, Option.bind_some, Function.comp_def] | rfl)))) (fun y => (x_var (ea := eI) (v := y) rfl)))) (xo_val (x_cv (t' := some ([] : (List Int))) (x_up (ea := (fun p_ => PyData.list (f0 p_))) (eb := (eL eI)) (fun x_ => []) (fun _ => rfl) (x_lst (xa_cv (t' := some (())) xa_nil rfl) (fun _ => (by decide : 0 ≤ 1000)))) rfl)) okf) (by first | with_reducible rfl | simp -implicitDefEqProofs only [Option.map_eq_bind, Option.bind_assoc, Option.bind_some, Function.comp_def] | rfl))) rfl))))
def w0_state_of_fraction (q : (Int × Int × (List Int) × Unit)) (st : (Int × Int × (List Int))) : Option Bool := (some ((decide (0 < st.1)) && (decide (0 < st.2.1))))
def l0_state_of_fraction (q : (Int × Int × (List Int) × Unit)) (st : (Int × Int × (List Int))) : Option (Int × Int × (List Int)) := if (decide (st.2.1 ≤ st.1)) = true then (Option.bind (appT st.2.2 q.1) fun found => Option.bind (some (st.1 - st.2.1)) fun p => some (p, st.2.1, found)) else (Option.bind (Option.bind (mulT 2 q.1) fun x => appT st.2.2 x) fun found_1 => Option.bind (some (st.2.1 - st.1)) fun size => some (st.1, size, found_1))
def t_state_of_fraction (fraction : (Int × Int)) : Option (Int × (List Int)) := if ((decide (fraction.1 < 0)) || ((decide (fraction.1 = 0)) && (!decide (fraction.2 = 1)))) = true then (none) else Option.bind (some ((if (decide (0 < fraction.2)) = true then 1 else (-1)), (if fraction.2 < 0 then -fraction.2 else fraction.2), ([] : (List Int)), ())) fun q => if (decide (q.2.1 = 0)) = true then (if (!decide (fraction.1 = 1)) = true then (none) else (some (1, ([] : (List Int))))) else Option.bind (α := (Int × Int × (List Int))) (whlP (w0_state_of_fraction  q) (l0_state_of_fraction  q) 1000 (fraction.1, q.2.1, q.2.2.1)) fun st_1 => if (!decide (st_1.2.1 = 1)) = true then (none) else (some (0, (List.reverse st_1.2.2)))
theorem k_state_of_fraction : FT m_state_of_fraction 1 (fC (eTu (fC eI (f1 eI))) f0) (eTu (fC eI (f1 (eT eI)))) (fun p_ => t_state_of_fraction p_.1) :=
  ft_ofK rfl (fun _ => rfl) rfl (by decide) (fun (fraction, ()) => by
    unfold t_state_of_fraction
    refine xb_weak (L' := [(some (some ((eTu (fC eI (f1 eI))) fraction))), (some none), (some none), (some none), (some none), (some none)]) ?_ ⟨rfl, rfl, rfl, rfl, rfl, rfl, trivial⟩
    refine xb_asgV (ea := (eTu (fC eI (f1 eI)))) (v := fraction) ?_ (xg_tu rfl (xg_cons xg_nm (xg_cons xg_nm xg_nil))) ?_
    · exact (x_var (ea := (eTu (fC eI (f1 eI)))) (v := fraction) rfl)
    · refine xb_weak (L' := [(some (some ((eTu (fC eI (f1 eI))) fraction))), (some (some (eI fraction.1))), (some (some (eI fraction.2))), (some none), (some none), (some none)]) ?_ ⟨rfl, rfl, rfl, rfl, rfl, rfl, trivial⟩
      refine xb_ifGT ?_ gone_no ?_ ?_
      · exact (xt_cv (t' := some ((decide (fraction.1 < 0)) || ((decide (fraction.1 = 0)) && (!decide (fraction.2 = 1))))) (xt_orT (xt_test (x_cv (t' := some (decide (fraction.1 < 0))) (x_bin (ea := eI) (eb := eI) (ec := eB) (f := (fun a_ b_ => some ((decide (a_ < b_))))) q_lt (xo_val (x_var (ea := eI) (v := fraction.1) rfl)) (xo_val (x_c (ea := eI) (v := 0) rfl)) okf) rfl)) (xt_cv (t' := some ((decide (fraction.1 = 0)) && (!decide (fraction.2 = 1)))) (xt_andT (xt_test (x_cv (t' := some (decide (fraction.1 = 0))) (x_bin (ea := eI) (eb := eI) (ec := eB) (f := (fun a_ b_ => some ((decide (a_ = b_))))) (q_eqE (q_eq eqI)) (xo_val (x_var (ea := eI) (v := fraction.1) rfl)) (xo_val (x_c (ea := eI) (v := 0) rfl)) okf) rfl)) (xt_test (x_cv (t' := some (!decide (fraction.2 = 1))) (x_bin (ea := eI) (eb := eI) (ec := eB) (f := (fun a_ b_ => some ((!decide (a_ = b_))))) (q_ne eqI) (xo_val (x_var (ea := eI) (v := fraction.2) rfl)) (xo_val (x_c (ea := eI) (v := 1) rfl)) okf) rfl))) rfl)) rfl)
      · refine xb_weak (L' := [(some (some ((eTu (fC eI (f1 eI))) fraction))), (some (some (eI fraction.1))), (some (some (eI fraction.2))), (some none), (some none), (some none)]) ?_ ⟨rfl, rfl, rfl, rfl, rfl, rfl, trivial⟩
        exact (fun _ _ _ h_ => nomatch h_)
      · refine xb_weak (L' := [(some (some ((eTu (fC eI (f1 eI))) fraction))), (some (some (eI fraction.1))), (some (some (eI fraction.2))), (some none), (some none), (some none)]) ?_ ⟨rfl, rfl, rfl, rfl, rfl, rfl, trivial⟩
        refine xb_par (fs := (fC eI (fC eI (fC (eL eI) f0)))) ?_ fun q => ?_
        · exact (xm_cv (t' := some ((if (decide (0 < fraction.2)) = true then 1 else (-1)), (if fraction.2 < 0 then -fraction.2 else fraction.2), ([] : (List Int)), ())) (xm_cons (ea := eI) (x_cv (t' := some (if (decide (0 < fraction.2)) = true then 1 else (-1))) (x_ifT (ea := eI) (xt_test (x_cv (t' := some (decide (0 < fraction.2))) (x_bin (ea := eI) (eb := eI) (ec := eB) (f := (fun a_ b_ => some ((decide (b_ < a_))))) q_gt (xo_val (x_var (ea := eI) (v := fraction.2) rfl)) (xo_val (x_c (ea := eI) (v := 0) rfl)) okf) rfl)) (x_c (ea := eI) (v := 1) rfl) (x_cv (t' := some (-1)) (x_un (ea := eI) (ec := eI) (f := fun a_ => some (-a_)) q_neg (xo_val (x_c (ea := eI) (v := 1) rfl)) okf) rfl)) rfl) (xm_cons (ea := eI) (x_cv (t' := some (if fraction.2 < 0 then -fraction.2 else fraction.2)) (x_callB (ec := eI) (f := (fun (p_ : Int × Unit) => some ((if p_.1 < 0 then -p_.1 else p_.1)))) q_abs (xa_cons (o1 := false) (o2 := false) (xo_val (x_var (ea := eI) (v := fraction.2) rfl)) xa_nil) okf) rfl) (xm_cons (ea := (eL eI)) (x_cv (t' := some ([] : (List Int))) (x_up (ea := (fun p_ => PyData.list (f0 p_))) (eb := (eL eI)) (fun x_ => []) (fun _ => rfl) (x_lst (xa_cv (t' := some (())) xa_nil rfl) (fun _ => (by decide : 0 ≤ 1000)))) rfl) xm_nil))) rfl)
        · refine xb_weak (L' := [(some (some ((eTu (fC eI (f1 eI))) fraction))), (some (some (eI fraction.1))), (some (some (eI fraction.2))), (some (some (eI q.1))), (some (some (eI q.2.1))), (some (some ((eL eI) q.2.2.1)))]) ?_ ⟨rfl, rfl, rfl, rfl, rfl, rfl, trivial⟩
          refine xb_ifGT ?_ (gone_seq gone_ret) ?_ ?_
          · exact (xt_test (x_cv (t' := some (decide (q.2.1 = 0))) (x_bin (ea := eI) (eb := eI) (ec := eB) (f := (fun a_ b_ => some ((decide (a_ = b_))))) (q_eqE (q_eq eqI)) (xo_val (x_var (ea := eI) (v := q.2.1) rfl)) (xo_val (x_c (ea := eI) (v := 0) rfl)) okf) rfl))
          · refine xb_weak (L' := [(some (some ((eTu (fC eI (f1 eI))) fraction))), (some (some (eI fraction.1))), (some (some (eI fraction.2))), (some (some (eI q.1))), (some (some (eI q.2.1))), (some (some ((eL eI) q.2.2.1)))]) ?_ ⟨rfl, rfl, rfl, rfl, rfl, rfl, trivial⟩
            refine xb_ifGT ?_ gone_no ?_ ?_
            · exact (xt_test (x_cv (t' := some (!decide (fraction.1 = 1))) (x_bin (ea := eI) (eb := eI) (ec := eB) (f := (fun a_ b_ => some ((!decide (a_ = b_))))) (q_ne eqI) (xo_val (x_var (ea := eI) (v := fraction.1) rfl)) (xo_val (x_c (ea := eI) (v := 1) rfl)) okf) rfl))
            · refine xb_weak (L' := [(some (some ((eTu (fC eI (f1 eI))) fraction))), (some (some (eI fraction.1))), (some (some (eI fraction.2))), (some (some (eI q.1))), (some (some (eI q.2.1))), (some (some ((eL eI) q.2.2.1)))]) ?_ ⟨rfl, rfl, rfl, rfl, rfl, rfl, trivial⟩
              exact (fun _ _ _ h_ => nomatch h_)
            · refine xb_weak (L' := [(some (some ((eTu (fC eI (f1 eI))) fraction))), (some (some (eI fraction.1))), (some (some (eI fraction.2))), (some (some (eI q.1))), (some (some (eI q.2.1))), (some (some ((eL eI) q.2.2.1)))]) ?_ ⟨rfl, rfl, rfl, rfl, rfl, rfl, trivial⟩
              exact (xb_retI (rv_ok rfl) (XP.w (x_cv (t' := some (1, ([] : (List Int)))) (x_up (ea := (eTu (fC eI (fC (eT eI) f0)))) (eb := (eTu (fC eI (f1 (eT eI))))) (fun x_ => (x_.1, x_.2.1)) (fun _ => rfl) (x_tup (xa_cv (t' := some (1, ([] : (List Int)), ())) (xa_cons (o1 := false) (o2 := false) (xo_val (x_c (ea := eI) (v := 1) rfl)) (xa_cons (o1 := false) (o2 := false) (xo_val (x_cv (t' := some ([] : (List Int))) (x_up (ea := (eTu f0)) (eb := (eT eI)) (fun x_ => []) (fun _ => rfl) (x_tup (xa_cv (t' := some (())) xa_nil rfl) (fun _ => (by decide : 0 ≤ 1000)))) rfl)) xa_nil)) rfl) (fun _ => (by decide : 2 ≤ 1000)))) rfl)))
          · refine xb_weak (L' := [(some (some ((eTu (fC eI (f1 eI))) fraction))), (some (some (eI fraction.1))), (some (some (eI fraction.2))), (some (some (eI q.1))), (some (some (eI q.2.1))), (some (some ((eL eI) q.2.2.1)))]) ?_ ⟨rfl, rfl, rfl, rfl, rfl, rfl, trivial⟩
            refine xb_thn (σ := (Int × Int × (List Int))) (env := (fun (st_ : (Int × Int × (List Int))) => [(some (some ((eTu (fC eI (f1 eI))) fraction))), (some (some (eI st_.1))), (some (some (eI fraction.2))), (some (some (eI q.1))), (some (some (eI st_.2.1))), (some (some ((eL eI) st_.2.2)))])) ?_ fun st_1 => ?_
            · refine xb_whl (env := (fun (st_ : (Int × Int × (List Int))) => [(some (some ((eTu (fC eI (f1 eI))) fraction))), (some (some (eI st_.1))), (some (some (eI fraction.2))), (some (some (eI q.1))), (some (some (eI st_.2.1))), (some (some ((eL eI) st_.2.2)))])) (tc := (w0_state_of_fraction  q)) (f := (l0_state_of_fraction  q)) (n := 1000) (s0 := (fraction.1, q.2.1, q.2.2.1)) (fun _ => rfl) ⟨rfl, rfl, rfl, rfl, rfl, rfl, trivial⟩ (fun st => ?_) (fun st => ?_)
              · exact (xt_cv (t' := some ((decide (0 < st.1)) && (decide (0 < st.2.1)))) (xt_andT (xt_test (x_cv (t' := some (decide (0 < st.1))) (x_bin (ea := eI) (eb := eI) (ec := eB) (f := (fun a_ b_ => some ((decide (b_ < a_))))) q_gt (xo_val (x_var (ea := eI) (v := st.1) rfl)) (xo_val (x_c (ea := eI) (v := 0) rfl)) okf) rfl)) (xt_test (x_cv (t' := some (decide (0 < st.2.1))) (x_bin (ea := eI) (eb := eI) (ec := eB) (f := (fun a_ b_ => some ((decide (b_ < a_))))) q_gt (xo_val (x_var (ea := eI) (v := st.2.1) rfl)) (xo_val (x_c (ea := eI) (v := 0) rfl)) okf) rfl))) rfl)
              · unfold l0_state_of_fraction
                refine xb_weak (L' := [(some (some ((eTu (fC eI (f1 eI))) fraction))), (some (some (eI st.1))), (some (some (eI fraction.2))), (some (some (eI q.1))), (some (some (eI st.2.1))), (some (some ((eL eI) st.2.2)))]) ?_ ⟨rfl, rfl, rfl, rfl, rfl, rfl, trivial⟩
                refine xb_ifT ?_ ?_ ?_
                · exact (xt_test (x_cv (t' := some (decide (st.2.1 ≤ st.1))) (x_bin (ea := eI) (eb := eI) (ec := eB) (f := (fun a_ b_ => some ((decide (b_ ≤ a_))))) q_ge (xo_val (x_var (ea := eI) (v := st.1) rfl)) (xo_val (x_var (ea := eI) (v := st.2.1) rfl)) okf) rfl))
                · refine xb_weak (L' := [(some (some ((eTu (fC eI (f1 eI))) fraction))), (some (some (eI st.1))), (some (some (eI fraction.2))), (some (some (eI q.1))), (some (some (eI st.2.1))), (some (some ((eL eI) st.2.2)))]) ?_ ⟨rfl, rfl, rfl, rfl, rfl, rfl, trivial⟩
                  refine xb_appE (ea := eI) (l := st.2.2) rfl (t := (some q.1)) ?_ rfl fun found => ?_
                  · exact (x_var (ea := eI) (v := q.1) rfl)
                  · refine xb_weak (L' := [(some (some ((eTu (fC eI (f1 eI))) fraction))), (some (some (eI st.1))), (some (some (eI fraction.2))), (some (some (eI q.1))), (some (some (eI st.2.1))), (some (some ((eL eI) found)))]) ?_ ⟨rfl, rfl, rfl, rfl, rfl, rfl, trivial⟩
                    refine xb_seq_nx ?_
                    refine xb_augE (ea := eI) (eb := eI) (ec := eI) (a := st.1) (f := (fun a_ b_ => some (a_ - b_))) q_sub rfl (t := (some st.2.1)) ?_ rfl fun p => ?_
                    · exact (x_var (ea := eI) (v := st.2.1) rfl)
                    · refine xb_weak (L' := [(some (some ((eTu (fC eI (f1 eI))) fraction))), (some (some (eI p))), (some (some (eI fraction.2))), (some (some (eI q.1))), (some (some (eI st.2.1))), (some (some ((eL eI) found)))]) ?_ ⟨rfl, rfl, rfl, rfl, rfl, rfl, trivial⟩
                      exact (xb_nx (env := (fun (st_ : (Int × Int × (List Int))) => [(some (some ((eTu (fC eI (f1 eI))) fraction))), (some (some (eI st_.1))), (some (some (eI fraction.2))), (some (some (eI q.1))), (some (some (eI st_.2.1))), (some (some ((eL eI) st_.2.2)))])) (s := (p, st.2.1, found)) ⟨rfl, rfl, rfl, rfl, rfl, rfl, trivial⟩)
                · refine xb_weak (L' := [(some (some ((eTu (fC eI (f1 eI))) fraction))), (some (some (eI st.1))), (some (some (eI fraction.2))), (some (some (eI q.1))), (some (some (eI st.2.1))), (some (some ((eL eI) st.2.2)))]) ?_ ⟨rfl, rfl, rfl, rfl, rfl, rfl, trivial⟩
                  refine xb_appE (ea := eI) (l := st.2.2) rfl (t := mulT 2 q.1) ?_ rfl fun found_1 => ?_
                  · exact (x_binT (ea := eI) (eb := eI) (ec := eI) (f := (fun a_ b_ => mulT a_ b_)) (a := 2) (b := q.1) q_mul (xo_val (x_c (ea := eI) (v := 2) rfl)) (xo_val (x_var (ea := eI) (v := q.1) rfl)) okf)
                  · refine xb_weak (L' := [(some (some ((eTu (fC eI (f1 eI))) fraction))), (some (some (eI st.1))), (some (some (eI fraction.2))), (some (some (eI q.1))), (some (some (eI st.2.1))), (some (some ((eL eI) found_1)))]) ?_ ⟨rfl, rfl, rfl, rfl, rfl, rfl, trivial⟩
                    refine xb_seq_nx ?_
                    refine xb_augE (ea := eI) (eb := eI) (ec := eI) (a := st.2.1) (f := (fun a_ b_ => some (a_ - b_))) q_sub rfl (t := (some st.1)) ?_ rfl fun size => ?_
                    · exact (x_var (ea := eI) (v := st.1) rfl)
                    · refine xb_weak (L' := [(some (some ((eTu (fC eI (f1 eI))) fraction))), (some (some (eI st.1))), (some (some (eI fraction.2))), (some (some (eI q.1))), (some (some (eI size))), (some (some ((eL eI) found_1)))]) ?_ ⟨rfl, rfl, rfl, rfl, rfl, rfl, trivial⟩
                      exact (xb_nx (env := (fun (st_ : (Int × Int × (List Int))) => [(some (some ((eTu (fC eI (f1 eI))) fraction))), (some (some (eI st_.1))), (some (some (eI fraction.2))), (some (some (eI q.1))), (some (some (eI st_.2.1))), (some (some ((eL eI) st_.2.2)))])) (s := (st.1, size, found_1)) ⟨rfl, rfl, rfl, rfl, rfl, rfl, trivial⟩)
            · refine xb_weak (L' := [(some (some ((eTu (fC eI (f1 eI))) fraction))), (some (some (eI st_1.1))), (some (some (eI fraction.2))), (some (some (eI q.1))), (some (some (eI st_1.2.1))), (some (some ((eL eI) st_1.2.2)))]) ?_ ⟨rfl, rfl, rfl, rfl, rfl, rfl, trivial⟩
              refine xb_ifGT ?_ gone_no ?_ ?_
              · exact (xt_test (x_cv (t' := some (!decide (st_1.2.1 = 1))) (x_bin (ea := eI) (eb := eI) (ec := eB) (f := (fun a_ b_ => some ((!decide (a_ = b_))))) (q_ne eqI) (xo_val (x_var (ea := eI) (v := st_1.2.1) rfl)) (xo_val (x_c (ea := eI) (v := 1) rfl)) okf) rfl))
              · refine xb_weak (L' := [(some (some ((eTu (fC eI (f1 eI))) fraction))), (some (some (eI st_1.1))), (some (some (eI fraction.2))), (some (some (eI q.1))), (some (some (eI st_1.2.1))), (some (some ((eL eI) st_1.2.2)))]) ?_ ⟨rfl, rfl, rfl, rfl, rfl, rfl, trivial⟩
                exact (fun _ _ _ h_ => nomatch h_)
              · refine xb_weak (L' := [(some (some ((eTu (fC eI (f1 eI))) fraction))), (some (some (eI st_1.1))), (some (some (eI fraction.2))), (some (some (eI q.1))), (some (some (eI st_1.2.1))), (some (some ((eL eI) st_1.2.2)))]) ?_ ⟨rfl, rfl, rfl, rfl, rfl, rfl, trivial⟩
                exact (xb_retI (rv_ok rfl) (XP.w (x_cv (t' := some (0, (List.reverse st_1.2.2))) (x_up (ea := (eTu (fC eI (fC (eT eI) f0)))) (eb := (eTu (fC eI (f1 (eT eI))))) (fun x_ => (x_.1, x_.2.1)) (fun _ => rfl) (x_tup (xa_cv (t' := some (0, (List.reverse st_1.2.2), ())) (xa_cons (o1 := false) (o2 := false) (xo_val (x_c (ea := eI) (v := 0) rfl)) (xa_cons (o1 := false) (o2 := false) (xo_val (x_cv (t' := some (List.reverse st_1.2.2)) (x_callB (ec := (eT eI)) (f := (fun (p_ : (List Int) × Unit) => some (p_.1))) (q_tupL (ea := eI)) (xa_cons (o1 := false) (o2 := false) (xo_val (x_cv (t' := some (List.reverse st_1.2.2)) (x_revS (ea := eI) (xo_slot (ea := (eL eI)) (v := st_1.2.2) rfl)) rfl)) xa_nil) okf) rfl)) xa_nil)) rfl) (fun _ => (by decide : 2 ≤ 1000)))) rfl))))
def w0_y_state_of_fraction (q : (Int × Int × (List Int) × Unit)) (st : (Int × Int × (List Int))) : Option Bool := (some ((decide (0 < st.1)) && (decide (0 < st.2.1))))
def l0_y_state_of_fraction (q : (Int × Int × (List Int) × Unit)) (st : (Int × Int × (List Int))) : Option (Int × Int × (List Int)) := if (decide (st.2.1 ≤ st.1)) = true then (Option.bind (appT st.2.2 q.1) fun found => Option.bind (some (st.1 - st.2.1)) fun p => some (p, st.2.1, found)) else (Option.bind (Option.bind (mulT 2 q.1) fun x => appT st.2.2 x) fun found_1 => Option.bind (some (st.2.1 - st.1)) fun size => some (st.1, size, found_1))
def t_y_state_of_fraction (fraction : (Int × Int)) : Option Bool := if ((decide (fraction.1 < 0)) || ((decide (fraction.1 = 0)) && (!decide (fraction.2 = 1)))) = true then ((some true)) else Option.bind (some ((if (decide (0 < fraction.2)) = true then 1 else (-1)), (if fraction.2 < 0 then -fraction.2 else fraction.2), ([] : (List Int)), ())) fun q => if (decide (q.2.1 = 0)) = true then (if (!decide (fraction.1 = 1)) = true then ((some true)) else (some false)) else Option.bind (α := (Int × Int × (List Int))) (whlP (w0_y_state_of_fraction  q) (l0_y_state_of_fraction  q) 1000 (fraction.1, q.2.1, q.2.2.1)) fun st_1 => if (!decide (st_1.2.1 = 1)) = true then ((some true)) else (some false)
theorem k_y_state_of_fraction : FT m_y_state_of_fraction 1 (fC (eTu (fC eI (f1 eI))) f0) eB (fun p_ => t_y_state_of_fraction p_.1) :=
  ft_ofK rfl (fun _ => rfl) rfl (by decide) (fun (fraction, ()) => by
    unfold t_y_state_of_fraction
    refine xb_weak (L' := [(some (some ((eTu (fC eI (f1 eI))) fraction))), (some none), (some none), (some none), (some none), (some none)]) ?_ ⟨rfl, rfl, rfl, rfl, rfl, rfl, trivial⟩
    refine xb_asgV (ea := (eTu (fC eI (f1 eI)))) (v := fraction) ?_ (xg_tu rfl (xg_cons xg_nm (xg_cons xg_nm xg_nil))) ?_
    · exact (x_var (ea := (eTu (fC eI (f1 eI)))) (v := fraction) rfl)
    · refine xb_weak (L' := [(some (some ((eTu (fC eI (f1 eI))) fraction))), (some (some (eI fraction.1))), (some (some (eI fraction.2))), (some none), (some none), (some none)]) ?_ ⟨rfl, rfl, rfl, rfl, rfl, rfl, trivial⟩
      refine xb_ifGT ?_ gone_ret ?_ ?_
      · exact (xt_cv (t' := some ((decide (fraction.1 < 0)) || ((decide (fraction.1 = 0)) && (!decide (fraction.2 = 1))))) (xt_orT (xt_test (x_cv (t' := some (decide (fraction.1 < 0))) (x_bin (ea := eI) (eb := eI) (ec := eB) (f := (fun a_ b_ => some ((decide (a_ < b_))))) q_lt (xo_val (x_var (ea := eI) (v := fraction.1) rfl)) (xo_val (x_c (ea := eI) (v := 0) rfl)) okf) rfl)) (xt_cv (t' := some ((decide (fraction.1 = 0)) && (!decide (fraction.2 = 1)))) (xt_andT (xt_test (x_cv (t' := some (decide (fraction.1 = 0))) (x_bin (ea := eI) (eb := eI) (ec := eB) (f := (fun a_ b_ => some ((decide (a_ = b_))))) (q_eqE (q_eq eqI)) (xo_val (x_var (ea := eI) (v := fraction.1) rfl)) (xo_val (x_c (ea := eI) (v := 0) rfl)) okf) rfl)) (xt_test (x_cv (t' := some (!decide (fraction.2 = 1))) (x_bin (ea := eI) (eb := eI) (ec := eB) (f := (fun a_ b_ => some ((!decide (a_ = b_))))) (q_ne eqI) (xo_val (x_var (ea := eI) (v := fraction.2) rfl)) (xo_val (x_c (ea := eI) (v := 1) rfl)) okf) rfl))) rfl)) rfl)
      · refine xb_weak (L' := [(some (some ((eTu (fC eI (f1 eI))) fraction))), (some (some (eI fraction.1))), (some (some (eI fraction.2))), (some none), (some none), (some none)]) ?_ ⟨rfl, rfl, rfl, rfl, rfl, rfl, trivial⟩
        exact (xb_retI (rv_ok rfl) (XP.w (x_c (ea := eB) (v := true) rfl)))
      · refine xb_weak (L' := [(some (some ((eTu (fC eI (f1 eI))) fraction))), (some (some (eI fraction.1))), (some (some (eI fraction.2))), (some none), (some none), (some none)]) ?_ ⟨rfl, rfl, rfl, rfl, rfl, rfl, trivial⟩
        refine xb_par (fs := (fC eI (fC eI (fC (eL eI) f0)))) ?_ fun q => ?_
        · exact (xm_cv (t' := some ((if (decide (0 < fraction.2)) = true then 1 else (-1)), (if fraction.2 < 0 then -fraction.2 else fraction.2), ([] : (List Int)), ())) (xm_cons (ea := eI) (x_cv (t' := some (if (decide (0 < fraction.2)) = true then 1 else (-1))) (x_ifT (ea := eI) (xt_test (x_cv (t' := some (decide (0 < fraction.2))) (x_bin (ea := eI) (eb := eI) (ec := eB) (f := (fun a_ b_ => some ((decide (b_ < a_))))) q_gt (xo_val (x_var (ea := eI) (v := fraction.2) rfl)) (xo_val (x_c (ea := eI) (v := 0) rfl)) okf) rfl)) (x_c (ea := eI) (v := 1) rfl) (x_cv (t' := some (-1)) (x_un (ea := eI) (ec := eI) (f := fun a_ => some (-a_)) q_neg (xo_val (x_c (ea := eI) (v := 1) rfl)) okf) rfl)) rfl) (xm_cons (ea := eI) (x_cv (t' := some (if fraction.2 < 0 then -fraction.2 else fraction.2)) (x_callB (ec := eI) (f := (fun (p_ : Int × Unit) => some ((if p_.1 < 0 then -p_.1 else p_.1)))) q_abs (xa_cons (o1 := false) (o2 := false) (xo_val (x_var (ea := eI) (v := fraction.2) rfl)) xa_nil) okf) rfl) (xm_cons (ea := (eL eI)) (x_cv (t' := some ([] : (List Int))) (x_up (ea := (fun p_ => PyData.list (f0 p_))) (eb := (eL eI)) (fun x_ => []) (fun _ => rfl) (x_lst (xa_cv (t' := some (())) xa_nil rfl) (fun _ => (by decide : 0 ≤ 1000)))) rfl) xm_nil))) rfl)
        · refine xb_weak (L' := [(some (some ((eTu (fC eI (f1 eI))) fraction))), (some (some (eI fraction.1))), (some (some (eI fraction.2))), (some (some (eI q.1))), (some (some (eI q.2.1))), (some (some ((eL eI) q.2.2.1)))]) ?_ ⟨rfl, rfl, rfl, rfl, rfl, rfl, trivial⟩
          refine xb_ifGT ?_ (gone_seq gone_ret) ?_ ?_
          · exact (xt_test (x_cv (t' := some (decide (q.2.1 = 0))) (x_bin (ea := eI) (eb := eI) (ec := eB) (f := (fun a_ b_ => some ((decide (a_ = b_))))) (q_eqE (q_eq eqI)) (xo_val (x_var (ea := eI) (v := q.2.1) rfl)) (xo_val (x_c (ea := eI) (v := 0) rfl)) okf) rfl))
          · refine xb_weak (L' := [(some (some ((eTu (fC eI (f1 eI))) fraction))), (some (some (eI fraction.1))), (some (some (eI fraction.2))), (some (some (eI q.1))), (some (some (eI q.2.1))), (some (some ((eL eI) q.2.2.1)))]) ?_ ⟨rfl, rfl, rfl, rfl, rfl, rfl, trivial⟩
            refine xb_ifGT ?_ gone_ret ?_ ?_
            · exact (xt_test (x_cv (t' := some (!decide (fraction.1 = 1))) (x_bin (ea := eI) (eb := eI) (ec := eB) (f := (fun a_ b_ => some ((!decide (a_ = b_))))) (q_ne eqI) (xo_val (x_var (ea := eI) (v := fraction.1) rfl)) (xo_val (x_c (ea := eI) (v := 1) rfl)) okf) rfl))
            · refine xb_weak (L' := [(some (some ((eTu (fC eI (f1 eI))) fraction))), (some (some (eI fraction.1))), (some (some (eI fraction.2))), (some (some (eI q.1))), (some (some (eI q.2.1))), (some (some ((eL eI) q.2.2.1)))]) ?_ ⟨rfl, rfl, rfl, rfl, rfl, rfl, trivial⟩
              exact (xb_retI (rv_ok rfl) (XP.w (x_c (ea := eB) (v := true) rfl)))
            · refine xb_weak (L' := [(some (some ((eTu (fC eI (f1 eI))) fraction))), (some (some (eI fraction.1))), (some (some (eI fraction.2))), (some (some (eI q.1))), (some (some (eI q.2.1))), (some (some ((eL eI) q.2.2.1)))]) ?_ ⟨rfl, rfl, rfl, rfl, rfl, rfl, trivial⟩
              exact (xb_retI (rv_ok rfl) (XP.w (x_c (ea := eB) (v := false) rfl)))
          · refine xb_weak (L' := [(some (some ((eTu (fC eI (f1 eI))) fraction))), (some (some (eI fraction.1))), (some (some (eI fraction.2))), (some (some (eI q.1))), (some (some (eI q.2.1))), (some (some ((eL eI) q.2.2.1)))]) ?_ ⟨rfl, rfl, rfl, rfl, rfl, rfl, trivial⟩
            refine xb_thn (σ := (Int × Int × (List Int))) (env := (fun (st_ : (Int × Int × (List Int))) => [(some (some ((eTu (fC eI (f1 eI))) fraction))), (some (some (eI st_.1))), (some (some (eI fraction.2))), (some (some (eI q.1))), (some (some (eI st_.2.1))), (some (some ((eL eI) st_.2.2)))])) ?_ fun st_1 => ?_
            · refine xb_whl (env := (fun (st_ : (Int × Int × (List Int))) => [(some (some ((eTu (fC eI (f1 eI))) fraction))), (some (some (eI st_.1))), (some (some (eI fraction.2))), (some (some (eI q.1))), (some (some (eI st_.2.1))), (some (some ((eL eI) st_.2.2)))])) (tc := (w0_y_state_of_fraction  q)) (f := (l0_y_state_of_fraction  q)) (n := 1000) (s0 := (fraction.1, q.2.1, q.2.2.1)) (fun _ => rfl) ⟨rfl, rfl, rfl, rfl, rfl, rfl, trivial⟩ (fun st => ?_) (fun st => ?_)
              · exact (xt_cv (t' := some ((decide (0 < st.1)) && (decide (0 < st.2.1)))) (xt_andT (xt_test (x_cv (t' := some (decide (0 < st.1))) (x_bin (ea := eI) (eb := eI) (ec := eB) (f := (fun a_ b_ => some ((decide (b_ < a_))))) q_gt (xo_val (x_var (ea := eI) (v := st.1) rfl)) (xo_val (x_c (ea := eI) (v := 0) rfl)) okf) rfl)) (xt_test (x_cv (t' := some (decide (0 < st.2.1))) (x_bin (ea := eI) (eb := eI) (ec := eB) (f := (fun a_ b_ => some ((decide (b_ < a_))))) q_gt (xo_val (x_var (ea := eI) (v := st.2.1) rfl)) (xo_val (x_c (ea := eI) (v := 0) rfl)) okf) rfl))) rfl)
              · unfold l0_y_state_of_fraction
                refine xb_weak (L' := [(some (some ((eTu (fC eI (f1 eI))) fraction))), (some (some (eI st.1))), (some (some (eI fraction.2))), (some (some (eI q.1))), (some (some (eI st.2.1))), (some (some ((eL eI) st.2.2)))]) ?_ ⟨rfl, rfl, rfl, rfl, rfl, rfl, trivial⟩
                refine xb_ifT ?_ ?_ ?_
                · exact (xt_test (x_cv (t' := some (decide (st.2.1 ≤ st.1))) (x_bin (ea := eI) (eb := eI) (ec := eB) (f := (fun a_ b_ => some ((decide (b_ ≤ a_))))) q_ge (xo_val (x_var (ea := eI) (v := st.1) rfl)) (xo_val (x_var (ea := eI) (v := st.2.1) rfl)) okf) rfl))
                · refine xb_weak (L' := [(some (some ((eTu (fC eI (f1 eI))) fraction))), (some (some (eI st.1))), (some (some (eI fraction.2))), (some (some (eI q.1))), (some (some (eI st.2.1))), (some (some ((eL eI) st.2.2)))]) ?_ ⟨rfl, rfl, rfl, rfl, rfl, rfl, trivial⟩
                  refine xb_appE (ea := eI) (l := st.2.2) rfl (t := (some q.1)) ?_ rfl fun found => ?_
                  · exact (x_var (ea := eI) (v := q.1) rfl)
                  · refine xb_weak (L' := [(some (some ((eTu (fC eI (f1 eI))) fraction))), (some (some (eI st.1))), (some (some (eI fraction.2))), (some (some (eI q.1))), (some (some (eI st.2.1))), (some (some ((eL eI) found)))]) ?_ ⟨rfl, rfl, rfl, rfl, rfl, rfl, trivial⟩
                    refine xb_seq_nx ?_
                    refine xb_augE (ea := eI) (eb := eI) (ec := eI) (a := st.1) (f := (fun a_ b_ => some (a_ - b_))) q_sub rfl (t := (some st.2.1)) ?_ rfl fun p => ?_
                    · exact (x_var (ea := eI) (v := st.2.1) rfl)
                    · refine xb_weak (L' := [(some (some ((eTu (fC eI (f1 eI))) fraction))), (some (some (eI p))), (some (some (eI fraction.2))), (some (some (eI q.1))), (some (some (eI st.2.1))), (some (some ((eL eI) found)))]) ?_ ⟨rfl, rfl, rfl, rfl, rfl, rfl, trivial⟩
                      exact (xb_nx (env := (fun (st_ : (Int × Int × (List Int))) => [(some (some ((eTu (fC eI (f1 eI))) fraction))), (some (some (eI st_.1))), (some (some (eI fraction.2))), (some (some (eI q.1))), (some (some (eI st_.2.1))), (some (some ((eL eI) st_.2.2)))])) (s := (p, st.2.1, found)) ⟨rfl, rfl, rfl, rfl, rfl, rfl, trivial⟩)
                · refine xb_weak (L' := [(some (some ((eTu (fC eI (f1 eI))) fraction))), (some (some (eI st.1))), (some (some (eI fraction.2))), (some (some (eI q.1))), (some (some (eI st.2.1))), (some (some ((eL eI) st.2.2)))]) ?_ ⟨rfl, rfl, rfl, rfl, rfl, rfl, trivial⟩
                  refine xb_appE (ea := eI) (l := st.2.2) rfl (t := mulT 2 q.1) ?_ rfl fun found_1 => ?_
                  · exact (x_binT (ea := eI) (eb := eI) (ec := eI) (f := (fun a_ b_ => mulT a_ b_)) (a := 2) (b := q.1) q_mul (xo_val (x_c (ea := eI) (v := 2) rfl)) (xo_val (x_var (ea := eI) (v := q.1) rfl)) okf)
                  · refine xb_weak (L' := [(some (some ((eTu (fC eI (f1 eI))) fraction))), (some (some (eI st.1))), (some (some (eI fraction.2))), (some (some (eI q.1))), (some (some (eI st.2.1))), (some (some ((eL eI) found_1)))]) ?_ ⟨rfl, rfl, rfl, rfl, rfl, rfl, trivial⟩
                    refine xb_seq_nx ?_
                    refine xb_augE (ea := eI) (eb := eI) (ec := eI) (a := st.2.1) (f := (fun a_ b_ => some (a_ - b_))) q_sub rfl (t := (some st.1)) ?_ rfl fun size => ?_
                    · exact (x_var (ea := eI) (v := st.1) rfl)
                    · refine xb_weak (L' := [(some (some ((eTu (fC eI (f1 eI))) fraction))), (some (some (eI st.1))), (some (some (eI fraction.2))), (some (some (eI q.1))), (some (some (eI size))), (some (some ((eL eI) found_1)))]) ?_ ⟨rfl, rfl, rfl, rfl, rfl, rfl, trivial⟩
                      exact (xb_nx (env := (fun (st_ : (Int × Int × (List Int))) => [(some (some ((eTu (fC eI (f1 eI))) fraction))), (some (some (eI st_.1))), (some (some (eI fraction.2))), (some (some (eI q.1))), (some (some (eI st_.2.1))), (some (some ((eL eI) st_.2.2)))])) (s := (st.1, size, found_1)) ⟨rfl, rfl, rfl, rfl, rfl, rfl, trivial⟩)
            · refine xb_weak (L' := [(some (some ((eTu (fC eI (f1 eI))) fraction))), (some (some (eI st_1.1))), (some (some (eI fraction.2))), (some (some (eI q.1))), (some (some (eI st_1.2.1))), (some (some ((eL eI) st_1.2.2)))]) ?_ ⟨rfl, rfl, rfl, rfl, rfl, rfl, trivial⟩
              refine xb_ifGT ?_ gone_ret ?_ ?_
              · exact (xt_test (x_cv (t' := some (!decide (st_1.2.1 = 1))) (x_bin (ea := eI) (eb := eI) (ec := eB) (f := (fun a_ b_ => some ((!decide (a_ = b_))))) (q_ne eqI) (xo_val (x_var (ea := eI) (v := st_1.2.1) rfl)) (xo_val (x_c (ea := eI) (v := 1) rfl)) okf) rfl))
              · refine xb_weak (L' := [(some (some ((eTu (fC eI (f1 eI))) fraction))), (some (some (eI st_1.1))), (some (some (eI fraction.2))), (some (some (eI q.1))), (some (some (eI st_1.2.1))), (some (some ((eL eI) st_1.2.2)))]) ?_ ⟨rfl, rfl, rfl, rfl, rfl, rfl, trivial⟩
                exact (xb_retI (rv_ok rfl) (XP.w (x_c (ea := eB) (v := true) rfl)))
              · refine xb_weak (L' := [(some (some ((eTu (fC eI (f1 eI))) fraction))), (some (some (eI st_1.1))), (some (some (eI fraction.2))), (some (some (eI q.1))), (some (some (eI st_1.2.1))), (some (some ((eL eI) st_1.2.2)))]) ?_ ⟨rfl, rfl, rfl, rfl, rfl, rfl, trivial⟩
                exact (xb_retI (rv_ok rfl) (XP.w (x_c (ea := eB) (v := false) rfl))))
def w0_law_of_fraction (q_1 : (Int × Int × (List Int) × Unit)) (st : (Int × Int × (List Int))) : Option Bool := (some (decide (0 < st.1)))
def l0_law_of_fraction (q_1 : (Int × Int × (List Int) × Unit)) (st : (Int × Int × (List Int))) : Option (Int × Int × (List Int)) := if (decide (st.2.1 ≤ st.1)) = true then (Option.bind (Option.bind (catT ([q_1.1]) st.2.2) fun x => some ((x, (st.1 - st.2.1), ()))) fun q_2 => some (q_2.2.1, st.2.1, q_2.1)) else (Option.bind (Option.bind (Option.bind (Option.bind (mulT 2 q_1.1) fun x_2 => some ([x_2])) fun x_3 => catT x_3 st.2.2) fun x_4 => some ((x_4, (st.2.1 - st.1), ()))) fun q_3 => some (st.1, q_3.2.1, q_3.1))
def t_law_of_fraction (p : Int) (q : Int) : Option (Int × (List Int)) := if (decide (q = 0)) = true then ((some (1, ([] : (List Int))))) else Option.bind (some ((if (decide (0 < q)) = true then 1 else (-1)), (if q < 0 then -q else q), ([] : (List Int)), ())) fun q_1 => Option.bind (α := (Int × Int × (List Int))) (whlP (w0_law_of_fraction  q_1) (l0_law_of_fraction  q_1) 1000 (p, q_1.2.1, q_1.2.2.1)) fun st_1 => (some (0, st_1.2.2))
theorem k__law_of_fraction : FT m_law_of_fraction 2 (fC eI (fC eI f0)) (eTu (fC eI (f1 (eT eI)))) (fun p_ => t_law_of_fraction p_.1 p_.2.1) :=
  ft_ofK rfl (fun _ => rfl) rfl (by decide) (fun (p, q, ()) => by
    unfold t_law_of_fraction
    refine xb_weak (L' := [(some (some (eI p))), (some (some (eI q))), (some none), (some none), (some none)]) ?_ ⟨rfl, rfl, rfl, rfl, rfl, trivial⟩
    refine xb_ifGT ?_ gone_ret ?_ ?_
    · exact (xt_test (x_cv (t' := some (decide (q = 0))) (x_bin (ea := eI) (eb := eI) (ec := eB) (f := (fun a_ b_ => some ((decide (a_ = b_))))) (q_eqE (q_eq eqI)) (xo_val (x_var (ea := eI) (v := q) rfl)) (xo_val (x_c (ea := eI) (v := 0) rfl)) okf) rfl))
    · refine xb_weak (L' := [(some (some (eI p))), (some (some (eI q))), (some none), (some none), (some none)]) ?_ ⟨rfl, rfl, rfl, rfl, rfl, trivial⟩
      exact (xb_retI (rv_ok rfl) (XP.w (x_cv (t' := some (1, ([] : (List Int)))) (x_up (ea := (eTu (fC eI (fC (eT eI) f0)))) (eb := (eTu (fC eI (f1 (eT eI))))) (fun x_ => (x_.1, x_.2.1)) (fun _ => rfl) (x_tup (xa_cv (t' := some (1, ([] : (List Int)), ())) (xa_cons (o1 := false) (o2 := false) (xo_val (x_c (ea := eI) (v := 1) rfl)) (xa_cons (o1 := false) (o2 := false) (xo_val (x_cv (t' := some ([] : (List Int))) (x_up (ea := (eTu f0)) (eb := (eT eI)) (fun x_ => []) (fun _ => rfl) (x_tup (xa_cv (t' := some (())) xa_nil rfl) (fun _ => (by decide : 0 ≤ 1000)))) rfl)) xa_nil)) rfl) (fun _ => (by decide : 2 ≤ 1000)))) rfl)))
    · refine xb_weak (L' := [(some (some (eI p))), (some (some (eI q))), (some none), (some none), (some none)]) ?_ ⟨rfl, rfl, rfl, rfl, rfl, trivial⟩
      refine xb_par (fs := (fC eI (fC eI (fC (eT eI) f0)))) ?_ fun q_1 => ?_
      · exact (xm_cv (t' := some ((if (decide (0 < q)) = true then 1 else (-1)), (if q < 0 then -q else q), ([] : (List Int)), ())) (xm_cons (ea := eI) (x_cv (t' := some (if (decide (0 < q)) = true then 1 else (-1))) (x_ifT (ea := eI) (xt_test (x_cv (t' := some (decide (0 < q))) (x_bin (ea := eI) (eb := eI) (ec := eB) (f := (fun a_ b_ => some ((decide (b_ < a_))))) q_gt (xo_val (x_var (ea := eI) (v := q) rfl)) (xo_val (x_c (ea := eI) (v := 0) rfl)) okf) rfl)) (x_c (ea := eI) (v := 1) rfl) (x_cv (t' := some (-1)) (x_un (ea := eI) (ec := eI) (f := fun a_ => some (-a_)) q_neg (xo_val (x_c (ea := eI) (v := 1) rfl)) okf) rfl)) rfl) (xm_cons (ea := eI) (x_cv (t' := some (if q < 0 then -q else q)) (x_callB (ec := eI) (f := (fun (p_ : Int × Unit) => some ((if p_.1 < 0 then -p_.1 else p_.1)))) q_abs (xa_cons (o1 := false) (o2 := false) (xo_val (x_var (ea := eI) (v := q) rfl)) xa_nil) okf) rfl) (xm_cons (ea := (eT eI)) (x_cv (t' := some ([] : (List Int))) (x_up (ea := (eTu f0)) (eb := (eT eI)) (fun x_ => []) (fun _ => rfl) (x_tup (xa_cv (t' := some (())) xa_nil rfl) (fun _ => (by decide : 0 ≤ 1000)))) rfl) xm_nil))) rfl)
      · refine xb_weak (L' := [(some (some (eI p))), (some (some (eI q))), (some (some (eI q_1.1))), (some (some (eI q_1.2.1))), (some (some ((eT eI) q_1.2.2.1)))]) ?_ ⟨rfl, rfl, rfl, rfl, rfl, trivial⟩
        refine xb_thn (σ := (Int × Int × (List Int))) (env := (fun (st_ : (Int × Int × (List Int))) => [(some (some (eI st_.1))), (some (some (eI q))), (some (some (eI q_1.1))), (some (some (eI st_.2.1))), (some (some ((eT eI) st_.2.2)))])) ?_ fun st_1 => ?_
        · refine xb_whl (env := (fun (st_ : (Int × Int × (List Int))) => [(some (some (eI st_.1))), (some (some (eI q))), (some (some (eI q_1.1))), (some (some (eI st_.2.1))), (some (some ((eT eI) st_.2.2)))])) (tc := (w0_law_of_fraction  q_1)) (f := (l0_law_of_fraction  q_1)) (n := 1000) (s0 := (p, q_1.2.1, q_1.2.2.1)) (fun _ => rfl) ⟨rfl, rfl, rfl, rfl, rfl, trivial⟩ (fun st => ?_) (fun st => ?_)
          · exact (xt_test (x_cv (t' := some (decide (0 < st.1))) (x_bin (ea := eI) (eb := eI) (ec := eB) (f := (fun a_ b_ => some ((decide (b_ < a_))))) q_gt (xo_val (x_var (ea := eI) (v := st.1) rfl)) (xo_val (x_c (ea := eI) (v := 0) rfl)) okf) rfl))
          · unfold l0_law_of_fraction
            refine xb_weak (L' := [(some (some (eI st.1))), (some (some (eI q))), (some (some (eI q_1.1))), (some (some (eI st.2.1))), (some (some ((eT eI) st.2.2)))]) ?_ ⟨rfl, rfl, rfl, rfl, rfl, trivial⟩
            refine xb_ifT ?_ ?_ ?_
            · exact (xt_test (x_cv (t' := some (decide (st.2.1 ≤ st.1))) (x_bin (ea := eI) (eb := eI) (ec := eB) (f := (fun a_ b_ => some ((decide (b_ ≤ a_))))) q_ge (xo_val (x_var (ea := eI) (v := st.1) rfl)) (xo_val (x_var (ea := eI) (v := st.2.1) rfl)) okf) rfl))
            · refine xb_weak (L' := [(some (some (eI st.1))), (some (some (eI q))), (some (some (eI q_1.1))), (some (some (eI st.2.1))), (some (some ((eT eI) st.2.2)))]) ?_ ⟨rfl, rfl, rfl, rfl, rfl, trivial⟩
              refine xb_seq_nx ?_
              refine xb_par (fs := (fC (eT eI) (fC eI f0))) ?_ fun q_2 => ?_
              · exact (xm_cv (t' := (Option.bind (catT ([q_1.1]) st.2.2) fun x => some ((x, (st.1 - st.2.1), ())))) (xm_cons (ea := (eT eI)) (x_binT (ea := (eT eI)) (eb := (eT eI)) (ec := (eT eI)) (f := (fun a_ b_ => catT a_ b_)) (a := [q_1.1]) (b := st.2.2) q_catT (xo_val (x_cv (t' := some ([q_1.1])) (x_up (ea := (eTu (fC eI f0))) (eb := (eT eI)) (fun x_ => [x_.1]) (fun _ => rfl) (x_tup (xa_cv (t' := some (q_1.1, ())) (xa_cons (o1 := false) (o2 := false) (xo_val (x_var (ea := eI) (v := q_1.1) rfl)) xa_nil) rfl) (fun _ => (by decide : 1 ≤ 1000)))) rfl)) (xo_val (x_var (ea := (eT eI)) (v := st.2.2) rfl)) okf) (xm_cons (ea := eI) (x_cv (t' := some (st.1 - st.2.1)) (x_bin (ea := eI) (eb := eI) (ec := eI) (f := (fun a_ b_ => some ((a_ - b_)))) q_sub (xo_val (x_var (ea := eI) (v := st.1) rfl)) (xo_val (x_var (ea := eI) (v := st.2.1) rfl)) okf) rfl) xm_nil)) (by first | with_reducible rfl | simp -implicitDefEqProofs only [Option.map_eq_bind, Option.bind_assoc, Option.bind_some, Function.comp_def] | rfl))
              · refine xb_weak (L' := [(some (some (eI q_2.2.1))), (some (some (eI q))), (some (some (eI q_1.1))), (some (some (eI st.2.1))), (some (some ((eT eI) q_2.1)))]) ?_ ⟨rfl, rfl, rfl, rfl, rfl, trivial⟩
                exact (xb_nx (env := (fun (st_ : (Int × Int × (List Int))) => [(some (some (eI st_.1))), (some (some (eI q))), (some (some (eI q_1.1))), (some (some (eI st_.2.1))), (some (some ((eT eI) st_.2.2)))])) (s := (q_2.2.1, st.2.1, q_2.1)) ⟨rfl, rfl, rfl, rfl, rfl, trivial⟩)
            · refine xb_weak (L' := [(some (some (eI st.1))), (some (some (eI q))), (some (some (eI q_1.1))), (some (some (eI st.2.1))), (some (some ((eT eI) st.2.2)))]) ?_ ⟨rfl, rfl, rfl, rfl, rfl, trivial⟩
              refine xb_seq_nx ?_
              refine xb_par (fs := (fC (eT eI) (fC eI f0))) ?_ fun q_3 => ?_
              · exact (xm_cv (t' := (Option.bind (Option.bind (Option.bind (mulT 2 q_1.1) fun x_2 => some ([x_2])) fun x_3 => catT x_3 st.2.2) fun x_4 => some ((x_4, (st.2.1 - st.1), ())))) (xm_cons (ea := (eT eI)) (x_cv (t' := (Option.bind (Option.bind (mulT 2 q_1.1) fun x_2 => some ([x_2])) fun x_3 => catT x_3 st.2.2)) (x_bin (ea := (eT eI)) (eb := (eT eI)) (ec := (eT eI)) (f := (fun a_ b_ => catT a_ b_)) q_catT (xo_val (x_cv (t' := (Option.bind (mulT 2 q_1.1) fun x_2 => some ([x_2]))) (x_up (ea := (eTu (fC eI f0))) (eb := (eT eI)) (fun x_ => [x_.1]) (fun _ => rfl) (x_tup (xa_cv (t' := (Option.bind (mulT 2 q_1.1) fun x_1 => some ((x_1, ())))) (xa_cons (o1 := false) (o2 := false) (xo_val (x_binT (ea := eI) (eb := eI) (ec := eI) (f := (fun a_ b_ => mulT a_ b_)) (a := 2) (b := q_1.1) q_mul (xo_val (x_c (ea := eI) (v := 2) rfl)) (xo_val (x_var (ea := eI) (v := q_1.1) rfl)) okf)) xa_nil) (by first | with_reducible rfl | simp -implicitDefEqProofs only [Option.map_eq_bind, Option.bind_assoc, Option.bind_some, Function.comp_def] | rfl)) (fun _ => (by decide : 1 ≤ 1000)))) (by first | with_reducible rfl | simp -implicitDefEqProofs only [Option.map_eq_bind, Option.bind_assoc, Option.bind_some, Function.comp_def] | rfl))) (xo_val (x_var (ea := (eT eI)) (v := st.2.2) rfl)) okf) (by first | with_reducible rfl | simp -implicitDefEqProofs only [Option.map_eq_bind, Option.bind_assoc, Option.bind_some, Function.comp_def] | rfl)) (xm_cons (ea := eI) (x_cv (t' := some (st.2.1 - st.1)) (x_bin (ea := eI) (eb := eI) (ec := eI) (f := (fun a_ b_ => some ((a_ - b_)))) q_sub (xo_val (x_var (ea := eI) (v := st.2.1) rfl)) (xo_val (x_var (ea := eI) (v := st.1) rfl)) okf) rfl) xm_nil)) (by first | with_reducible rfl | simp -implicitDefEqProofs only [Option.map_eq_bind, Option.bind_assoc, Option.bind_some, Function.comp_def] | rfl))
              · refine xb_weak (L' := [(some (some (eI st.1))), (some (some (eI q))), (some (some (eI q_1.1))), (some (some (eI q_3.2.1))), (some (some ((eT eI) q_3.1)))]) ?_ ⟨rfl, rfl, rfl, rfl, rfl, trivial⟩
                exact (xb_nx (env := (fun (st_ : (Int × Int × (List Int))) => [(some (some (eI st_.1))), (some (some (eI q))), (some (some (eI q_1.1))), (some (some (eI st_.2.1))), (some (some ((eT eI) st_.2.2)))])) (s := (st.1, q_3.2.1, q_3.1)) ⟨rfl, rfl, rfl, rfl, rfl, trivial⟩)
        · refine xb_weak (L' := [(some (some (eI st_1.1))), (some (some (eI q))), (some (some (eI q_1.1))), (some (some (eI st_1.2.1))), (some (some ((eT eI) st_1.2.2)))]) ?_ ⟨rfl, rfl, rfl, rfl, rfl, trivial⟩
          exact (xb_retI (rv_ok rfl) (XP.w (x_cv (t' := some (0, st_1.2.2)) (x_up (ea := (eTu (fC eI (fC (eT eI) f0)))) (eb := (eTu (fC eI (f1 (eT eI))))) (fun x_ => (x_.1, x_.2.1)) (fun _ => rfl) (x_tup (xa_cv (t' := some (0, st_1.2.2, ())) (xa_cons (o1 := false) (o2 := false) (xo_val (x_c (ea := eI) (v := 0) rfl)) (xa_cons (o1 := false) (o2 := false) (xo_val (x_var (ea := (eT eI)) (v := st_1.2.2) rfl)) xa_nil)) rfl) (fun _ => (by decide : 2 ≤ 1000)))) rfl))))
def t_law_told (fraction : (Int × Int)) : Option PyData := Option.bind (t_y_state_of_fraction fraction) fun b_ => if b_ = true then ((some (eN ()))) else ((Option.map (eTu (fC eI (f1 (eT eI)))) (t_state_of_fraction fraction)))
theorem k__law_told : FT m_law_told 1 (fC (eTu (fC eI (f1 eI))) f0) eA (fun p_ => t_law_told p_.1) :=
  ft_ofK rfl (fun _ => rfl) rfl (by decide) (fun (fraction, ()) => by
    unfold t_law_told
    refine xb_weak (L' := [(some (some ((eTu (fC eI (f1 eI))) fraction)))]) ?_ ⟨rfl, trivial⟩
    refine xb_try ?_ ?_ ?_
    · exact (x_callT (f := (fun (p_ : (Int × Int) × Unit) => t_y_state_of_fraction p_.1)) (p := (fraction, ())) k_y_state_of_fraction (xa_cv (t' := some (fraction, ())) (xa_cons (o1 := false) (o2 := false) (xo_val (x_var (ea := (eTu (fC eI (f1 eI)))) (v := fraction) rfl)) xa_nil) rfl) okk)
    · refine xb_weak (L' := [(some (some ((eTu (fC eI (f1 eI))) fraction)))]) ?_ ⟨rfl, trivial⟩
      exact (xb_retI (rv_ok rfl) (XP.w (x_cv (t' := some (eN ())) (x_up (ea := eN) (eb := eA) eN (fun _ => rfl) (x_c (ea := eN) (v := ()) rfl)) rfl)))
    · refine xb_weak (L' := [(some (some ((eTu (fC eI (f1 eI))) fraction)))]) ?_ ⟨rfl, trivial⟩
      exact (xb_retI (rv_ok rfl) (XP.w (x_cv (t' := (Option.map (eTu (fC eI (f1 (eT eI)))) (t_state_of_fraction fraction))) (x_up (ea := (eTu (fC eI (f1 (eT eI))))) (eb := eA) (eTu (fC eI (f1 (eT eI)))) (fun _ => rfl) (x_callT (f := (fun (p_ : (Int × Int) × Unit) => t_state_of_fraction p_.1)) (p := (fraction, ())) k_state_of_fraction (xa_cv (t' := some (fraction, ())) (xa_cons (o1 := false) (o2 := false) (xo_val (x_var (ea := (eTu (fC eI (f1 eI)))) (v := fraction) rfl)) xa_nil) rfl) okk)) rfl))))
def w0_law_common  (st : (Int × Int)) : Option Bool := (some (decide (0 < st.2)))
def l0_law_common  (st : (Int × Int)) : Option (Int × Int) := Option.bind (Option.bind (modT st.1 st.2) fun x => some ((st.2, x, ()))) fun q_1 => some (q_1.1, q_1.2.1)
def t_law_common (a : Int) (b : Int) : Option Int := Option.bind (some ((if a < 0 then -a else a), (if b < 0 then -b else b), ())) fun q => Option.bind (α := (Int × Int)) (whlP w0_law_common l0_law_common 1000 (q.1, q.2.1)) fun st_1 => (some st_1.1)
theorem k__law_common : FT m_law_common 2 (fC eI (fC eI f0)) eI (fun p_ => t_law_common p_.1 p_.2.1) :=
  ft_ofK rfl (fun _ => rfl) rfl (by decide) (fun (a, b, ()) => by
    unfold t_law_common
    refine xb_weak (L' := [(some (some (eI a))), (some (some (eI b)))]) ?_ ⟨rfl, rfl, trivial⟩
    refine xb_par (fs := (fC eI (fC eI f0))) ?_ fun q => ?_
    · exact (xm_cv (t' := some ((if a < 0 then -a else a), (if b < 0 then -b else b), ())) (xm_cons (ea := eI) (x_cv (t' := some (if a < 0 then -a else a)) (x_callB (ec := eI) (f := (fun (p_ : Int × Unit) => some ((if p_.1 < 0 then -p_.1 else p_.1)))) q_abs (xa_cons (o1 := false) (o2 := false) (xo_val (x_var (ea := eI) (v := a) rfl)) xa_nil) okf) rfl) (xm_cons (ea := eI) (x_cv (t' := some (if b < 0 then -b else b)) (x_callB (ec := eI) (f := (fun (p_ : Int × Unit) => some ((if p_.1 < 0 then -p_.1 else p_.1)))) q_abs (xa_cons (o1 := false) (o2 := false) (xo_val (x_var (ea := eI) (v := b) rfl)) xa_nil) okf) rfl) xm_nil)) rfl)
    · refine xb_weak (L' := [(some (some (eI q.1))), (some (some (eI q.2.1)))]) ?_ ⟨rfl, rfl, trivial⟩
      refine xb_thn (σ := (Int × Int)) (env := (fun (st_ : (Int × Int)) => [(some (some (eI st_.1))), (some (some (eI st_.2)))])) ?_ fun st_1 => ?_
      · refine xb_whl (env := (fun (st_ : (Int × Int)) => [(some (some (eI st_.1))), (some (some (eI st_.2)))])) (tc := w0_law_common) (f := l0_law_common) (n := 1000) (s0 := (q.1, q.2.1)) (fun _ => rfl) ⟨rfl, rfl, trivial⟩ (fun st => ?_) (fun st => ?_)
        · exact (xt_test (x_cv (t' := some (decide (0 < st.2))) (x_bin (ea := eI) (eb := eI) (ec := eB) (f := (fun a_ b_ => some ((decide (b_ < a_))))) q_gt (xo_val (x_var (ea := eI) (v := st.2) rfl)) (xo_val (x_c (ea := eI) (v := 0) rfl)) okf) rfl))
        · unfold l0_law_common
          refine xb_weak (L' := [(some (some (eI st.1))), (some (some (eI st.2)))]) ?_ ⟨rfl, rfl, trivial⟩
          refine xb_seq_nx ?_
          refine xb_par (fs := (fC eI (fC eI f0))) ?_ fun q_1 => ?_
          · exact (xm_cv (t' := (Option.bind (modT st.1 st.2) fun x => some ((st.2, x, ())))) (xm_cons (ea := eI) (x_var (ea := eI) (v := st.2) rfl) (xm_cons (ea := eI) (x_binT (ea := eI) (eb := eI) (ec := eI) (f := (fun a_ b_ => modT a_ b_)) (a := st.1) (b := st.2) q_mod (xo_val (x_cv (t' := some st.1) (x_callB (ec := eI) (f := (fun (p_ : Int × Unit) => some (p_.1))) q_intI (xa_cons (o1 := false) (o2 := false) (xo_val (x_var (ea := eI) (v := st.1) rfl)) xa_nil) okf) rfl)) (xo_val (x_var (ea := eI) (v := st.2) rfl)) okf) xm_nil)) (by first | with_reducible rfl | simp -implicitDefEqProofs only [Option.map_eq_bind, Option.bind_assoc, Option.bind_some, Function.comp_def] | rfl))
          · refine xb_weak (L' := [(some (some (eI q_1.1))), (some (some (eI q_1.2.1)))]) ?_ ⟨rfl, rfl, trivial⟩
            exact (xb_nx (env := (fun (st_ : (Int × Int)) => [(some (some (eI st_.1))), (some (some (eI st_.2)))])) (s := (q_1.1, q_1.2.1)) ⟨rfl, rfl, trivial⟩)
      · refine xb_weak (L' := [(some (some (eI st_1.1))), (some (some (eI st_1.2)))]) ?_ ⟨rfl, rfl, trivial⟩
        exact (xb_retI (rv_ok rfl) (XP.w (x_var (ea := eI) (v := st_1.1) rfl))))
def l0_law  (st : (Src)) (y : Int) : Option (Ctl Bool (Src)) := Option.bind (Option.bind (fdivT y 3) fun x => atI ([2, 4, 9, 30]) x) fun far => drw ((thn2 (thn2 (pickT (far + 1)) fun x_1 => thn2 (lif (fdivT y 11)) fun x_2 => fun s_ => some ((x_1 - x_2), s_)) fun x_7 => thn2 (thn2 (thn2 (lif (Option.bind (mulT 2 far) fun x_3 => some ((x_3 + 1)))) fun x_5 => pickT x_5) fun x_6 => fun s_ => some ((x_6 - far), s_)) fun x_8 => fun s_ => some ((x_7, x_8, ()), s_)) st) fun q s => Option.bind (Option.map (fun x_ => x_ || (decide ((q.1, q.2.1) = (0, 1)))) (if (decide (0 < q.1)) = true then (Option.map (fun x_ => x_ && ((!decide (q.2.1 = 0)) || (decide (q.1 = 1)))) (Option.bind (t_law_common q.1 q.2.1) fun x_9 => some ((decide (x_9 = 1))))) else some false)) fun is_one => Option.bind (if is_one = true then (Option.map (eTu (fC eI (f1 (eT eI)))) (t_law_of_fraction q.1 q.2.1)) else (some (eN ()))) fun due => Option.bind (t_law_told (q.1, q.2.1)) fun told => Option.bind (Option.bind (reprT (eA told)) fun x_10 => Option.bind (reprT (eA due)) fun x_11 => some ((!decide (x_10 = x_11)))) fun b_ => if b_ = true then (some (Ctl.rt false)) else Option.bind (if (!isNon (eA told)) = true then (Option.bind (Option.bind (Option.bind ((cvTu (cvC asI (cv1 (cvT asI)))) told) fun x_13 => t_state_fraction x_13) fun x_14 => some ((!decide (x_14 = (q.1, q.2.1))))) fun x_ => if x_ = true then some true else (Option.bind (Option.bind ((cvTu (cvC asI (cv1 (cvT asI)))) told) fun x_16 => t_is_told_state x_16) fun x_17 => some ((!decide (x_17 = true))))) else some false) fun b_ => if b_ = true then (some (Ctl.rt false)) else (some (Ctl.nx (s)))
def l1_law  (st_3 : ((List (List Int)))) (y_2 : (List Int)) : Option ((List (List Int))) := Option.bind (Option.bind (compG (fun (y_3 : Int) => (some true)) (fun (y_3 : Int) => catT y_2 ([y_3])) ([(1, 2, (-1), (-2)).1, (1, 2, (-1), (-2)).2.1, (1, 2, (-1), (-2)).2.2.1, (1, 2, (-1), (-2)).2.2.2])) fun x_20 => catT st_3 x_20) fun late_1 => some (late_1)
def l2_law  (st_2 : ((List (List Int)))) (y_1 : Int) : Option ((List (List Int))) := Option.bind (some ([] : (List (List Int)))) fun late => Option.bind (α := ((List (List Int)))) (Option.bind (some st_2) fun x_ => forP l1_law x_ (late)) fun st_4 => Option.bind (compG (fun (y_4 : (List Int)) => (Option.bind (Option.bind (Option.bind (atI y_4 0) fun x_21 => Option.bind (atI y_4 (-1)) fun x_22 => mulT x_21 x_22) fun x_23 => some ((decide (0 < x_23)))) fun x_ => if x_ = true then (Option.bind (atI y_4 0) fun x_24 => some ((memT x_24 ([1, (-1)])))) else some false)) (fun (y_4 : (List Int)) => (some y_4)) st_4) fun words => some (words)
def l3_law  (st_6 : (PyData)) (y_5 : (List Int)) : Option (Ctl Bool (PyData)) := Option.bind (t_state_fraction (0, y_5)) fun fraction => Option.bind (Option.bind (dInT .dt st_6 ((eTu (fC eI (f1 eI))) fraction)) fun x_ => if x_ = true then some true else (Option.bind (Option.bind (t_law_told fraction) fun x_26 => Option.bind (neD (eA x_26) ((eTu (fC eI (f1 (eT eI)))) (0, y_5))) bOf) fun x_ => if x_ = true then some true else (Option.bind (t_is_told_state (0, y_5)) fun x_27 => some ((!decide (x_27 = true)))))) fun b_ => if b_ = true then (some (Ctl.rt false)) else Option.bind (dPutT .dt st_6 ((eTu (fC eI (f1 eI))) fraction) ((eT eI) y_5)) fun fractions_1 => some (Ctl.nx (fractions_1))
def t_law (script : (List Int)) : Option Bool := Option.bind (sourceT script) fun source => Option.bind (Option.bind (rng1T 12) fun x_ => forC l0_law x_ (source)) (ctlK (σ := (Src)) (fun v_ => v_) (fun _ => none) (fun _ => none) fun st_1 => drw ((thn2 (thn2 (pickT 5) fun x_18 => fun s_ => some ((1 + x_18), s_)) fun x_19 => fun s_ => some ((x_19, ([([] : (List Int))]), ()), s_)) st_1) fun q_1 s_1 => Option.bind (α := ((List (List Int)))) (Option.bind (rng1T q_1.1) fun x_ => forP l2_law x_ (q_1.2.1)) fun st_5 => Option.bind (Option.bind (shlT 1 q_1.1) fun x_25 => some ((!decide ((st_5.length : Int) = x_25)))) fun b_ => if b_ = true then ((some false)) else Option.bind (some (PyData.dict [])) fun fractions => Option.bind (Option.bind (some st_5) fun x_ => forC l3_law x_ (fractions)) (ctlK (σ := (PyData)) (fun v_ => v_) (fun _ => none) (fun _ => none) fun st_7 => (Option.bind (Option.bind (t_state_of_fraction (2, 3)) fun x_28 => some ((decide (x_28 = (0, ([1, 1, 2])))))) fun x_ => if x_ = true then (Option.bind (Option.bind (t_law_told (2, 4)) fun x_29 => some ((isNon (eA x_29)))) fun x_ => if x_ = true then (Option.bind (t_law_told (0, 0)) fun x_30 => some ((isNon (eA x_30)))) else some false) else some false)))
theorem k_law : FT m_law 1 (fC (eL eI) f0) eB (fun p_ => t_law p_.1) :=
  ft_ofK rfl (fun _ => rfl) rfl (by decide) (fun (script, ()) => by
    unfold t_law
    refine xb_weak (L' := [(some (some ((eL eI) script))), (some none), (some none), (some none), (some none), (some none), (some none), (some none), (some none), (some none), (some none), (some none), (some none), (some none), (some none), (some none)]) ?_ ⟨rfl, rfl, rfl, rfl, rfl, rfl, rfl, rfl, rfl, rfl, rfl, rfl, rfl, rfl, rfl, rfl, trivial⟩
    refine xb_asg (ea := eX) ?_ (fun source => xg_nm) fun source => ?_
    · exact (x_callT (f := (fun (p_ : (List Int) × Unit) => sourceT p_.1)) (p := (script, ())) k__law_source (xa_cv (t' := some (script, ())) (xa_cons (o1 := false) (o2 := false) (xo_val (x_var (ea := (eL eI)) (v := script) rfl)) xa_nil) rfl) okk)
    · refine xb_weak (L' := [(some (some ((eL eI) script))), (some (some (eX source))), (some none), (some none), (some none), (some none), (some none), (some none), (some none), (some none), (some none), (some none), (some none), (some none), (some none), (some none)]) ?_ ⟨rfl, rfl, rfl, rfl, rfl, rfl, rfl, rfl, rfl, rfl, rfl, rfl, rfl, rfl, rfl, rfl, trivial⟩
      refine xb_thnC (σ := (Src)) (Rr := (RV 16 eB)) (env := (fun (st_ : (Src)) => [(some (some ((eL eI) script))), (some (some (eX st_))), none, (some none), (some none), none, none, none, none, (some none), (some none), (some none), (some none), none, none, (some none)])) (kb := fun _ => none) (kc := fun _ => none) (k := (fun v_ => v_)) (fun _ _ h_ => h_) rv_nn (fun _ _ h_ => nomatch h_) (fun _ _ h_ => nomatch h_) ?_ fun st_1 => ?_
      · refine xb_forC (ea := eI) (env := (fun (st_ : (Src)) => [(some (some ((eL eI) script))), (some (some (eX st_))), none, (some none), (some none), none, none, none, none, (some none), (some none), (some none), (some none), none, none, (some none)])) (f := l0_law) (s0 := (source)) (L := [(some (some ((eL eI) script))), (some (some (eX source))), (some none), (some none), (some none), (some none), (some none), (some none), (some none), (some none), (some none), (some none), (some none), (some none), (some none), (some none)]) (Rr := (RV 16 eB)) rv_rt ?_ ⟨rfl, rfl, rfl, rfl, rfl, rfl, rfl, rfl, rfl, trivial⟩ (fun st y => xg_nm) (fun st y => ?_)
        · exact (xi2 (xi_rng1T (xa_cv (t' := some (12, ())) (xa_cons (o1 := false) (o2 := false) (xo_val (x_c (ea := eI) (v := 12) rfl)) xa_nil) rfl)))
        · unfold l0_law
          refine xb_weak (L' := [(some (some ((eL eI) script))), (some (some (eX st))), (some (some (eI y))), (some none), (some none), none, none, none, none, (some none), (some none), (some none), (some none), none, none, (some none)]) ?_ ⟨rfl, rfl, rfl, rfl, rfl, rfl, rfl, rfl, rfl, rfl, trivial⟩
          refine xb_asg (ea := eI) ?_ (fun far => xg_nm) fun far => ?_
          · exact (x_cv (t' := (Option.bind (fdivT y 3) fun x => atI ([2, 4, 9, 30]) x)) (x_bin (ea := (eL eI)) (eb := eI) (ec := eI) (f := (fun a_ b_ => atI a_ b_)) q_itemL (xo_val (x_cv (t' := some ([2, 4, 9, 30])) (x_up (ea := (fun p_ => PyData.list ((fC eI (fC eI (fC eI (fC eI f0)))) p_))) (eb := (eL eI)) (fun x_ => [x_.1, x_.2.1, x_.2.2.1, x_.2.2.2.1]) (fun _ => rfl) (x_lst (xa_cv (t' := some (2, 4, 9, 30, ())) (xa_cons (o1 := false) (o2 := false) (xo_val (x_c (ea := eI) (v := 2) rfl)) (xa_cons (o1 := false) (o2 := false) (xo_val (x_c (ea := eI) (v := 4) rfl)) (xa_cons (o1 := false) (o2 := false) (xo_val (x_c (ea := eI) (v := 9) rfl)) (xa_cons (o1 := false) (o2 := false) (xo_val (x_c (ea := eI) (v := 30) rfl)) xa_nil)))) rfl) (fun _ => (by decide : 4 ≤ 1000)))) rfl)) (xo_val (x_binT (ea := eI) (eb := eI) (ec := eI) (f := (fun a_ b_ => fdivT a_ b_)) (a := y) (b := 3) q_fdiv (xo_val (x_var (ea := eI) (v := y) rfl)) (xo_val (x_c (ea := eI) (v := 3) rfl)) okf)) okf) (by first | with_reducible rfl | simp -implicitDefEqProofs only [Option.map_eq_bind, Option.bind_assoc, Option.bind_some, Function.comp_def] | rfl))
          · refine xb_weak (L' := [(some (some ((eL eI) script))), (some (some (eX st))), (some (some (eI y))), (some none), (some none), (some (some (eI far))), none, none, none, (some none), (some none), (some none), (some none), none, none, (some none)]) ?_ ⟨rfl, rfl, rfl, rfl, rfl, rfl, rfl, rfl, rfl, rfl, rfl, trivial⟩
            refine xs_par (L := (fun s_ => [(some (some ((eL eI) script))), (some (some (eX s_))), (some (some (eI y))), (some none), (some none), (some (some (eI far))), none, none, none, (some none), (some none), (some none), (some none), none, none, (some none)])) (fs := (fC eI (fC eI f0))) (t := (thn2 (thn2 (pickT (far + 1)) fun x_1 => thn2 (lif (fdivT y 11)) fun x_2 => fun s_ => some ((x_1 - x_2), s_)) fun x_7 => thn2 (thn2 (thn2 (lif (Option.bind (mulT 2 far) fun x_3 => some ((x_3 + 1)))) fun x_5 => pickT x_5) fun x_6 => fun s_ => some ((x_6 - far), s_)) fun x_8 => fun s_ => some ((x_7, x_8, ()), s_))) ?_ fun q s => ?_
            · exact (xsm_cv (t' := (thn2 (thn2 (pickT (far + 1)) fun x_1 => thn2 (lif (fdivT y 11)) fun x_2 => fun s_ => some ((x_1 - x_2), s_)) fun x_7 => thn2 (thn2 (thn2 (lif (Option.bind (mulT 2 far) fun x_3 => some ((x_3 + 1)))) fun x_5 => pickT x_5) fun x_6 => fun s_ => some ((x_6 - far), s_)) fun x_8 => fun s_ => some ((x_7, x_8, ()), s_))) (xsm_cons (ea := eI) (xs_cv (t' := (thn2 (pickT (far + 1)) fun x_1 => thn2 (lif (fdivT y 11)) fun x_2 => fun s_ => some ((x_1 - x_2), s_))) (xs_bin (ea := eI) (eb := eI) (ec := eI) (f := (fun a_ b_ => some ((a_ - b_)))) q_sub (xso_val (si := 1) (xs_cv (t' := (pickT (far + 1))) (xs_callS (f := (fun (p_ : Int × Unit) s_ => pickT p_.1 s_)) k__law_pick (fun _ => rfl) (fun _ _ => rfl) (xsa_cons (o1 := false) (o2 := false) (xso_val (si := 1) (xs_cv (t' := (fun s_ => some ((far + 1), s_))) (xs_pure (t := (some (far + 1))) fun s_ => (x_cv (t' := some (far + 1)) (x_bin (ea := eI) (eb := eI) (ec := eI) (f := (fun a_ b_ => some ((a_ + b_)))) q_add (xo_val (x_var (ea := eI) (v := far) rfl)) (xo_val (x_c (ea := eI) (v := 1) rfl)) okf) rfl)) rfl)) (xsa_nil (si := 1))) okk) (by first | with_reducible rfl | (funext s_; simp -implicitDefEqProofs only [thn2, lif, Option.map_eq_bind, Option.bind_assoc, Option.bind_some, Function.comp_def]) | rfl))) (xso_val (si := 1) (xs_pure (t := fdivT y 11) fun s_ => (x_binT (ea := eI) (eb := eI) (ec := eI) (f := (fun a_ b_ => fdivT a_ b_)) (a := y) (b := 11) q_fdiv (xo_val (x_var (ea := eI) (v := y) rfl)) (xo_val (x_c (ea := eI) (v := 11) rfl)) okf))) okf) (by first | with_reducible rfl | (funext s_; simp -implicitDefEqProofs only [thn2, lif, Option.map_eq_bind, Option.bind_assoc, Option.bind_some, Function.comp_def]) | rfl)) (xsm_cons (ea := eI) (xs_cv (t' := (thn2 (thn2 (lif (Option.bind (mulT 2 far) fun x_3 => some ((x_3 + 1)))) fun x_5 => pickT x_5) fun x_6 => fun s_ => some ((x_6 - far), s_))) (xs_bin (ea := eI) (eb := eI) (ec := eI) (f := (fun a_ b_ => some ((a_ - b_)))) q_sub (xso_val (si := 1) (xs_cv (t' := (thn2 (lif (Option.bind (mulT 2 far) fun x_3 => some ((x_3 + 1)))) fun x_5 => pickT x_5)) (xs_callS (f := (fun (p_ : Int × Unit) s_ => pickT p_.1 s_)) k__law_pick (fun _ => rfl) (fun _ _ => rfl) (xsa_cons (o1 := false) (o2 := false) (xso_val (si := 1) (xs_pure (t := (Option.bind (mulT 2 far) fun x_3 => some ((x_3 + 1)))) fun s_ => (x_cv (t' := (Option.bind (mulT 2 far) fun x_3 => some ((x_3 + 1)))) (x_bin (ea := eI) (eb := eI) (ec := eI) (f := (fun a_ b_ => some ((a_ + b_)))) q_add (xo_val (x_binT (ea := eI) (eb := eI) (ec := eI) (f := (fun a_ b_ => mulT a_ b_)) (a := 2) (b := far) q_mul (xo_val (x_c (ea := eI) (v := 2) rfl)) (xo_val (x_var (ea := eI) (v := far) rfl)) okf)) (xo_val (x_c (ea := eI) (v := 1) rfl)) okf) (by first | with_reducible rfl | simp -implicitDefEqProofs only [Option.map_eq_bind, Option.bind_assoc, Option.bind_some, Function.comp_def] | rfl)))) (xsa_nil (si := 1))) okk) (by first | with_reducible rfl | (funext s_; simp -implicitDefEqProofs only [thn2, lif, Option.map_eq_bind, Option.bind_assoc, Option.bind_some, Function.comp_def]) | rfl))) (xso_val (si := 1) (xs_cv (t' := (fun s_ => some (far, s_))) (xs_pure (t := (some far)) fun s_ => (x_var (ea := eI) (v := far) rfl)) rfl)) okf) (by first | with_reducible rfl | (funext s_; simp -implicitDefEqProofs only [thn2, lif, Option.map_eq_bind, Option.bind_assoc, Option.bind_some, Function.comp_def]) | rfl)) xsm_nil)) (by first | with_reducible rfl | (funext s_; simp -implicitDefEqProofs only [thn2, lif, Option.map_eq_bind, Option.bind_assoc, Option.bind_some, Function.comp_def]) | rfl))
            · refine xb_weak (L' := [(some (some ((eL eI) script))), (some (some (eX s))), (some (some (eI y))), (some none), (some none), (some (some (eI far))), none, none, none, (some none), (some none), (some none), (some none), (some (some (eI q.1))), (some (some (eI q.2.1))), (some none)]) ?_ ⟨rfl, rfl, rfl, rfl, rfl, rfl, rfl, rfl, rfl, rfl, rfl, rfl, rfl, trivial⟩
              refine xb_asg (ea := eB) ?_ (fun is_one => xg_nm) fun is_one => ?_
              · exact (x_cv (t' := (Option.map (fun x_ => x_ || (decide ((q.1, q.2.1) = (0, 1)))) (if (decide (0 < q.1)) = true then (Option.map (fun x_ => x_ && ((!decide (q.2.1 = 0)) || (decide (q.1 = 1)))) (Option.bind (t_law_common q.1 q.2.1) fun x_9 => some ((decide (x_9 = 1))))) else some false))) (x_orT (x_cv (t' := (if (decide (0 < q.1)) = true then (Option.map (fun x_ => x_ && ((!decide (q.2.1 = 0)) || (decide (q.1 = 1)))) (Option.bind (t_law_common q.1 q.2.1) fun x_9 => some ((decide (x_9 = 1))))) else some false)) (x_and (x_cv (t' := some (decide (0 < q.1))) (x_bin (ea := eI) (eb := eI) (ec := eB) (f := (fun a_ b_ => some ((decide (b_ < a_))))) q_gt (xo_val (x_var (ea := eI) (v := q.1) rfl)) (xo_val (x_c (ea := eI) (v := 0) rfl)) okf) rfl) (x_cv (t' := (Option.map (fun x_ => x_ && ((!decide (q.2.1 = 0)) || (decide (q.1 = 1)))) (Option.bind (t_law_common q.1 q.2.1) fun x_9 => some ((decide (x_9 = 1)))))) (x_andT (x_cv (t' := (Option.bind (t_law_common q.1 q.2.1) fun x_9 => some ((decide (x_9 = 1))))) (x_bin (ea := eI) (eb := eI) (ec := eB) (f := (fun a_ b_ => some ((decide (a_ = b_))))) (q_eqE (q_eq eqI)) (xo_val (x_callT (f := (fun (p_ : Int × Int × Unit) => t_law_common p_.1 p_.2.1)) (p := (q.1, q.2.1, ())) k__law_common (xa_cv (t' := some (q.1, q.2.1, ())) (xa_cons (o1 := false) (o2 := false) (xo_val (x_var (ea := eI) (v := q.1) rfl)) (xa_cons (o1 := false) (o2 := false) (xo_val (x_var (ea := eI) (v := q.2.1) rfl)) xa_nil)) rfl) okk)) (xo_val (x_c (ea := eI) (v := 1) rfl)) okf) (by first | with_reducible rfl | simp -implicitDefEqProofs only [Option.map_eq_bind, Option.bind_assoc, Option.bind_some, Function.comp_def] | rfl)) (x_cv (t' := some ((!decide (q.2.1 = 0)) || (decide (q.1 = 1)))) (x_orT (x_cv (t' := some (!decide (q.2.1 = 0))) (x_bin (ea := eI) (eb := eI) (ec := eB) (f := (fun a_ b_ => some ((!decide (a_ = b_))))) (q_ne eqI) (xo_val (x_var (ea := eI) (v := q.2.1) rfl)) (xo_val (x_c (ea := eI) (v := 0) rfl)) okf) rfl) (x_cv (t' := some (decide (q.1 = 1))) (x_bin (ea := eI) (eb := eI) (ec := eB) (f := (fun a_ b_ => some ((decide (a_ = b_))))) (q_eqE (q_eq eqI)) (xo_val (x_var (ea := eI) (v := q.1) rfl)) (xo_val (x_c (ea := eI) (v := 1) rfl)) okf) rfl)) rfl)) rfl)) rfl) (x_cv (t' := some (decide ((q.1, q.2.1) = (0, 1)))) (x_bin (ea := (eTu (fC eI (f1 eI)))) (eb := (eTu (fC eI (f1 eI)))) (ec := eB) (f := (fun a_ b_ => some ((decide (a_ = b_))))) (q_eqE (q_eq (eqTu (eqC eqI (eq1 eqI))))) (xo_val (x_cv (t' := some (q.1, q.2.1)) (x_up (ea := (eTu (fC eI (fC eI f0)))) (eb := (eTu (fC eI (f1 eI)))) (fun x_ => (x_.1, x_.2.1)) (fun _ => rfl) (x_tup (xa_cv (t' := some (q.1, q.2.1, ())) (xa_cons (o1 := false) (o2 := false) (xo_val (x_var (ea := eI) (v := q.1) rfl)) (xa_cons (o1 := false) (o2 := false) (xo_val (x_var (ea := eI) (v := q.2.1) rfl)) xa_nil)) rfl) (fun _ => (by decide : 2 ≤ 1000)))) rfl)) (xo_val (x_cv (t' := some (0, 1)) (x_up (ea := (eTu (fC eI (fC eI f0)))) (eb := (eTu (fC eI (f1 eI)))) (fun x_ => (x_.1, x_.2.1)) (fun _ => rfl) (x_tup (xa_cv (t' := some (0, 1, ())) (xa_cons (o1 := false) (o2 := false) (xo_val (x_c (ea := eI) (v := 0) rfl)) (xa_cons (o1 := false) (o2 := false) (xo_val (x_c (ea := eI) (v := 1) rfl)) xa_nil)) rfl) (fun _ => (by decide : 2 ≤ 1000)))) rfl)) okf) rfl)) rfl)
              · refine xb_weak (L' := [(some (some ((eL eI) script))), (some (some (eX s))), (some (some (eI y))), (some none), (some none), (some (some (eI far))), (some (some (eB is_one))), none, none, (some none), (some none), (some none), (some none), (some (some (eI q.1))), (some (some (eI q.2.1))), (some none)]) ?_ ⟨rfl, rfl, rfl, rfl, rfl, rfl, rfl, rfl, rfl, rfl, rfl, rfl, rfl, rfl, trivial⟩
                refine xb_asg (ea := eA) ?_ (fun due => xg_nm) fun due => ?_
                · exact (x_cv (t' := (if is_one = true then (Option.map (eTu (fC eI (f1 (eT eI)))) (t_law_of_fraction q.1 q.2.1)) else (some (eN ())))) (x_if (ea := eA) (xt_test (x_var (ea := eB) (v := is_one) rfl)) (x_cv (t' := (Option.map (eTu (fC eI (f1 (eT eI)))) (t_law_of_fraction q.1 q.2.1))) (x_up (ea := (eTu (fC eI (f1 (eT eI))))) (eb := eA) (eTu (fC eI (f1 (eT eI)))) (fun _ => rfl) (x_callT (f := (fun (p_ : Int × Int × Unit) => t_law_of_fraction p_.1 p_.2.1)) (p := (q.1, q.2.1, ())) k__law_of_fraction (xa_cv (t' := some (q.1, q.2.1, ())) (xa_cons (o1 := false) (o2 := false) (xo_val (x_var (ea := eI) (v := q.1) rfl)) (xa_cons (o1 := false) (o2 := false) (xo_val (x_var (ea := eI) (v := q.2.1) rfl)) xa_nil)) rfl) okk)) rfl) (x_cv (t' := some (eN ())) (x_up (ea := eN) (eb := eA) eN (fun _ => rfl) (x_c (ea := eN) (v := ()) rfl)) rfl)) rfl)
                · refine xb_weak (L' := [(some (some ((eL eI) script))), (some (some (eX s))), (some (some (eI y))), (some none), (some none), (some (some (eI far))), (some (some (eB is_one))), (some (some (eA due))), none, (some none), (some none), (some none), (some none), (some (some (eI q.1))), (some (some (eI q.2.1))), (some none)]) ?_ ⟨rfl, rfl, rfl, rfl, rfl, rfl, rfl, rfl, rfl, rfl, rfl, rfl, rfl, rfl, rfl, trivial⟩
                  refine xb_asg (ea := eA) ?_ (fun told => xg_nm) fun told => ?_
                  · exact (x_callT (f := (fun (p_ : (Int × Int) × Unit) => t_law_told p_.1)) (p := ((q.1, q.2.1), ())) k__law_told (xa_cv (t' := some ((q.1, q.2.1), ())) (xa_cons (o1 := false) (o2 := false) (xo_val (x_cv (t' := some (q.1, q.2.1)) (x_up (ea := (eTu (fC eI (fC eI f0)))) (eb := (eTu (fC eI (f1 eI)))) (fun x_ => (x_.1, x_.2.1)) (fun _ => rfl) (x_tup (xa_cv (t' := some (q.1, q.2.1, ())) (xa_cons (o1 := false) (o2 := false) (xo_val (x_var (ea := eI) (v := q.1) rfl)) (xa_cons (o1 := false) (o2 := false) (xo_val (x_var (ea := eI) (v := q.2.1) rfl)) xa_nil)) rfl) (fun _ => (by decide : 2 ≤ 1000)))) rfl)) xa_nil) rfl) okk)
                  · refine xb_weak (L' := [(some (some ((eL eI) script))), (some (some (eX s))), (some (some (eI y))), (some none), (some none), (some (some (eI far))), (some (some (eB is_one))), (some (some (eA due))), (some (some (eA told))), (some none), (some none), (some none), (some none), (some (some (eI q.1))), (some (some (eI q.2.1))), (some none)]) ?_ ⟨rfl, rfl, rfl, rfl, rfl, rfl, rfl, rfl, rfl, rfl, rfl, rfl, rfl, rfl, rfl, rfl, trivial⟩
                    refine xb_ifG ?_ gone_ret ?_ ?_
                    · exact (xt_test (x_cv (t' := (Option.bind (reprT (eA told)) fun x_10 => Option.bind (reprT (eA due)) fun x_11 => some ((!decide (x_10 = x_11))))) (x_bin (ea := eS) (eb := eS) (ec := eB) (f := (fun a_ b_ => some ((!decide (a_ = b_))))) q_neS (xo_val (x_callBT (ec := eS) (f := (fun (p_ : PyData × Unit) => reprT (eA p_.1))) (p := (told, ())) (q_repr (ea := eA)) (xa_cv (t' := some (told, ())) (xa_cons (o1 := false) (o2 := false) (xo_val (x_var (ea := eA) (v := told) rfl)) xa_nil) rfl) okf)) (xo_val (x_callBT (ec := eS) (f := (fun (p_ : PyData × Unit) => reprT (eA p_.1))) (p := (due, ())) (q_repr (ea := eA)) (xa_cv (t' := some (due, ())) (xa_cons (o1 := false) (o2 := false) (xo_val (x_var (ea := eA) (v := due) rfl)) xa_nil) rfl) okf)) okf) (by first | with_reducible rfl | simp -implicitDefEqProofs only [Option.map_eq_bind, Option.bind_assoc, Option.bind_some, Function.comp_def] | rfl)))
                    · refine xb_weak (L' := [(some (some ((eL eI) script))), (some (some (eX s))), (some (some (eI y))), (some none), (some none), (some (some (eI far))), (some (some (eB is_one))), (some (some (eA due))), (some (some (eA told))), (some none), (some none), (some none), (some none), (some (some (eI q.1))), (some (some (eI q.2.1))), (some none)]) ?_ ⟨rfl, rfl, rfl, rfl, rfl, rfl, rfl, rfl, rfl, rfl, rfl, rfl, rfl, rfl, rfl, rfl, trivial⟩
                      exact (xb_cv (xb_ret (k := fun v_ => (Ctl.rt v_)) (rv_ok rfl) (XP.w (x_c (ea := eB) (v := false) rfl))) rfl)
                    · refine xb_weak (L' := [(some (some ((eL eI) script))), (some (some (eX s))), (some (some (eI y))), (some none), (some none), (some (some (eI far))), (some (some (eB is_one))), (some (some (eA due))), (some (some (eA told))), (some none), (some none), (some none), (some none), (some (some (eI q.1))), (some (some (eI q.2.1))), (some none)]) ?_ ⟨rfl, rfl, rfl, rfl, rfl, rfl, rfl, rfl, rfl, rfl, rfl, rfl, rfl, rfl, rfl, rfl, trivial⟩
                      refine xb_if ?_ ?_ ?_
                      · exact (xt_cv (t' := (if (!isNon (eA told)) = true then (Option.bind (Option.bind (Option.bind ((cvTu (cvC asI (cv1 (cvT asI)))) told) fun x_13 => t_state_fraction x_13) fun x_14 => some ((!decide (x_14 = (q.1, q.2.1))))) fun x_ => if x_ = true then some true else (Option.bind (Option.bind ((cvTu (cvC asI (cv1 (cvT asI)))) told) fun x_16 => t_is_told_state x_16) fun x_17 => some ((!decide (x_17 = true))))) else some false)) (xt_and (xt_test (x_cv (t' := some (!isNon (eA told))) (x_bin (ea := eA) (eb := eN) (ec := eB) (f := (fun a_ b_ => some ((!isNon (eA a_))))) (q_isNotN (ea := eA)) (xo_val (x_var (ea := eA) (v := told) rfl)) (xo_val (x_c (ea := eN) (v := ()) rfl)) okf) rfl)) (xt_cv (t' := (Option.bind (Option.bind (Option.bind ((cvTu (cvC asI (cv1 (cvT asI)))) told) fun x_13 => t_state_fraction x_13) fun x_14 => some ((!decide (x_14 = (q.1, q.2.1))))) fun x_ => if x_ = true then some true else (Option.bind (Option.bind ((cvTu (cvC asI (cv1 (cvT asI)))) told) fun x_16 => t_is_told_state x_16) fun x_17 => some ((!decide (x_17 = true)))))) (xt_or (xt_test (x_cv (t' := (Option.bind (Option.bind ((cvTu (cvC asI (cv1 (cvT asI)))) told) fun x_13 => t_state_fraction x_13) fun x_14 => some ((!decide (x_14 = (q.1, q.2.1)))))) (x_bin (ea := (eTu (fC eI (f1 eI)))) (eb := (eTu (fC eI (f1 eI)))) (ec := eB) (f := (fun a_ b_ => some ((!decide (a_ = b_))))) (q_ne (eqTu (eqC eqI (eq1 eqI)))) (xo_val (x_cv (t' := (Option.bind ((cvTu (cvC asI (cv1 (cvT asI)))) told) fun x_13 => t_state_fraction x_13)) (x_call (f := (fun (p_ : (Int × (List Int)) × Unit) => t_state_fraction p_.1)) k_state_fraction (xa_cv (t' := (Option.bind ((cvTu (cvC asI (cv1 (cvT asI)))) told) fun x_12 => some ((x_12, ())))) (xa_cons (o1 := false) (o2 := false) (xo_val (x_cv (t' := ((cvTu (cvC asI (cv1 (cvT asI)))) told)) (x_cast (t := (some told)) (dcTu (dcC dcI (dc1 (dcT dcI)))).1 (x_var (ea := eA) (v := told) rfl)) rfl)) xa_nil) (by first | with_reducible rfl | simp -implicitDefEqProofs only [Option.map_eq_bind, Option.bind_assoc, Option.bind_some, Function.comp_def] | rfl)) okk) (by first | with_reducible rfl | simp -implicitDefEqProofs only [Option.map_eq_bind, Option.bind_assoc, Option.bind_some, Function.comp_def] | rfl))) (xo_val (x_cv (t' := some (q.1, q.2.1)) (x_up (ea := (eTu (fC eI (fC eI f0)))) (eb := (eTu (fC eI (f1 eI)))) (fun x_ => (x_.1, x_.2.1)) (fun _ => rfl) (x_tup (xa_cv (t' := some (q.1, q.2.1, ())) (xa_cons (o1 := false) (o2 := false) (xo_val (x_var (ea := eI) (v := q.1) rfl)) (xa_cons (o1 := false) (o2 := false) (xo_val (x_var (ea := eI) (v := q.2.1) rfl)) xa_nil)) rfl) (fun _ => (by decide : 2 ≤ 1000)))) rfl)) okf) (by first | with_reducible rfl | simp -implicitDefEqProofs only [Option.map_eq_bind, Option.bind_assoc, Option.bind_some, Function.comp_def] | rfl))) (xt_test (x_cv (t' := (Option.bind (Option.bind ((cvTu (cvC asI (cv1 (cvT asI)))) told) fun x_16 => t_is_told_state x_16) fun x_17 => some ((!decide (x_17 = true))))) (x_bin (ea := eB) (eb := eB) (ec := eB) (f := (fun a_ b_ => some ((!decide (a_ = b_))))) q_isNotB (xo_val (x_cv (t' := (Option.bind ((cvTu (cvC asI (cv1 (cvT asI)))) told) fun x_16 => t_is_told_state x_16)) (x_call (f := (fun (p_ : (Int × (List Int)) × Unit) => t_is_told_state p_.1)) k_is_told_state (xa_cv (t' := (Option.bind ((cvTu (cvC asI (cv1 (cvT asI)))) told) fun x_15 => some ((x_15, ())))) (xa_cons (o1 := false) (o2 := false) (xo_val (x_cv (t' := ((cvTu (cvC asI (cv1 (cvT asI)))) told)) (x_cast (t := (some told)) (dcTu (dcC dcI (dc1 (dcT dcI)))).1 (x_var (ea := eA) (v := told) rfl)) rfl)) xa_nil) (by first | with_reducible rfl | simp -implicitDefEqProofs only [Option.map_eq_bind, Option.bind_assoc, Option.bind_some, Function.comp_def] | rfl)) okk) (by first | with_reducible rfl | simp -implicitDefEqProofs only [Option.map_eq_bind, Option.bind_assoc, Option.bind_some, Function.comp_def] | rfl))) (xo_val (x_c (ea := eB) (v := true) rfl)) okf) (by first | with_reducible rfl | simp -implicitDefEqProofs only [Option.map_eq_bind, Option.bind_assoc, Option.bind_some, Function.comp_def] | rfl)))) rfl)) rfl)
                      · refine xb_weak (L' := [(some (some ((eL eI) script))), (some (some (eX s))), (some (some (eI y))), (some none), (some none), (some (some (eI far))), (some (some (eB is_one))), (some (some (eA due))), (some (some (eA told))), (some none), (some none), (some none), (some none), (some (some (eI q.1))), (some (some (eI q.2.1))), (some none)]) ?_ ⟨rfl, rfl, rfl, rfl, rfl, rfl, rfl, rfl, rfl, rfl, rfl, rfl, rfl, rfl, rfl, rfl, trivial⟩
                        exact (xb_cv (xb_ret (k := fun v_ => (Ctl.rt v_)) (rv_ok rfl) (XP.w (x_c (ea := eB) (v := false) rfl))) rfl)
                      · exact (xb_nxc (Rr := (RV 16 eB)) (env := (fun (st_ : (Src)) => [(some (some ((eL eI) script))), (some (some (eX st_))), none, (some none), (some none), none, none, none, none, (some none), (some none), (some none), (some none), none, none, (some none)])) (s := (s)) ⟨rfl, rfl, rfl, rfl, rfl, rfl, rfl, rfl, rfl, trivial⟩)
      · refine xb_weak (L' := [(some (some ((eL eI) script))), (some (some (eX st_1))), none, (some none), (some none), none, none, none, none, (some none), (some none), (some none), (some none), none, none, (some none)]) ?_ ⟨rfl, rfl, rfl, rfl, rfl, rfl, rfl, rfl, rfl, trivial⟩
        refine xs_par (L := (fun s_ => [(some (some ((eL eI) script))), (some (some (eX s_))), none, (some none), (some none), none, none, none, none, (some none), (some none), (some none), (some none), none, none, (some none)])) (fs := (fC eI (fC (eL (eT eI)) f0))) (t := (thn2 (thn2 (pickT 5) fun x_18 => fun s_ => some ((1 + x_18), s_)) fun x_19 => fun s_ => some ((x_19, ([([] : (List Int))]), ()), s_))) ?_ fun q_1 s_1 => ?_
        · exact (xsm_cv (t' := (thn2 (thn2 (pickT 5) fun x_18 => fun s_ => some ((1 + x_18), s_)) fun x_19 => fun s_ => some ((x_19, ([([] : (List Int))]), ()), s_))) (xsm_cons (ea := eI) (xs_cv (t' := (thn2 (pickT 5) fun x_18 => fun s_ => some ((1 + x_18), s_))) (xs_bin (ea := eI) (eb := eI) (ec := eI) (f := (fun a_ b_ => some ((a_ + b_)))) q_add (xso_val (si := 1) (xs_cv (t' := (fun s_ => some (1, s_))) (xs_pure (t := (some 1)) fun s_ => (x_c (ea := eI) (v := 1) rfl)) rfl)) (xso_val (si := 1) (xs_cv (t' := (pickT 5)) (xs_callS (f := (fun (p_ : Int × Unit) s_ => pickT p_.1 s_)) k__law_pick (fun _ => rfl) (fun _ _ => rfl) (xsa_cons (o1 := false) (o2 := false) (xso_val (si := 1) (xs_cv (t' := (fun s_ => some (5, s_))) (xs_pure (t := (some 5)) fun s_ => (x_c (ea := eI) (v := 5) rfl)) rfl)) (xsa_nil (si := 1))) okk) (by first | with_reducible rfl | (funext s_; simp -implicitDefEqProofs only [thn2, lif, Option.map_eq_bind, Option.bind_assoc, Option.bind_some, Function.comp_def]) | rfl))) okf) (by first | with_reducible rfl | (funext s_; simp -implicitDefEqProofs only [thn2, lif, Option.map_eq_bind, Option.bind_assoc, Option.bind_some, Function.comp_def]) | rfl)) (xsm_cons (ea := (eL (eT eI))) (xs_cv (t' := (fun s_ => some ([([] : (List Int))], s_))) (xs_pure (t := (some [([] : (List Int))])) fun s_ => (x_cv (t' := some ([([] : (List Int))])) (x_up (ea := (fun p_ => PyData.list ((fC (eT eI) f0) p_))) (eb := (eL (eT eI))) (fun x_ => [x_.1]) (fun _ => rfl) (x_lst (xa_cv (t' := some (([] : (List Int)), ())) (xa_cons (o1 := false) (o2 := false) (xo_val (x_cv (t' := some ([] : (List Int))) (x_up (ea := (eTu f0)) (eb := (eT eI)) (fun x_ => []) (fun _ => rfl) (x_tup (xa_cv (t' := some (())) xa_nil rfl) (fun _ => (by decide : 0 ≤ 1000)))) rfl)) xa_nil) rfl) (fun _ => (by decide : 1 ≤ 1000)))) rfl)) rfl) xsm_nil)) (by first | with_reducible rfl | (funext s_; simp -implicitDefEqProofs only [thn2, lif, Option.map_eq_bind, Option.bind_assoc, Option.bind_some, Function.comp_def]) | rfl))
        · refine xb_weak (L' := [(some (some ((eL eI) script))), (some (some (eX s_1))), none, (some none), (some none), none, none, none, none, (some (some (eI q_1.1))), (some (some ((eL (eT eI)) q_1.2.1))), (some none), (some none), none, none, (some none)]) ?_ ⟨rfl, rfl, rfl, rfl, rfl, rfl, rfl, rfl, rfl, trivial⟩
          refine xb_thn (σ := ((List (List Int)))) (env := (fun (st_ : ((List (List Int)))) => [(some (some ((eL eI) script))), (some (some (eX s_1))), none, (some none), none, none, none, none, none, (some (some (eI q_1.1))), (some (some ((eL (eT eI)) st_))), none, (some none), none, none, (some none)])) ?_ fun st_5 => ?_
          · refine xb_for (ea := eI) (env := (fun (st_ : ((List (List Int)))) => [(some (some ((eL eI) script))), (some (some (eX s_1))), none, (some none), none, none, none, none, none, (some (some (eI q_1.1))), (some (some ((eL (eT eI)) st_))), none, (some none), none, none, (some none)])) (f := l2_law) (s0 := (q_1.2.1)) (L := [(some (some ((eL eI) script))), (some (some (eX s_1))), none, (some none), (some none), none, none, none, none, (some (some (eI q_1.1))), (some (some ((eL (eT eI)) q_1.2.1))), (some none), (some none), none, none, (some none)]) ?_ ⟨rfl, rfl, rfl, rfl, rfl, rfl, rfl, trivial⟩ (fun st_2 y_1 => xg_nm) (fun st_2 y_1 => ?_)
            · exact (xi2 (xi_rng1T (xa_cv (t' := some (q_1.1, ())) (xa_cons (o1 := false) (o2 := false) (xo_val (x_var (ea := eI) (v := q_1.1) rfl)) xa_nil) rfl)))
            · unfold l2_law
              refine xb_weak (L' := [(some (some ((eL eI) script))), (some (some (eX s_1))), (some (some (eI y_1))), (some none), none, none, none, none, none, (some (some (eI q_1.1))), (some (some ((eL (eT eI)) st_2))), none, (some none), none, none, (some none)]) ?_ ⟨rfl, rfl, rfl, rfl, rfl, rfl, rfl, rfl, trivial⟩
              refine xb_asg (ea := (eL (eT eI))) ?_ (fun late => xg_nm) fun late => ?_
              · exact (x_cv (t' := some ([] : (List (List Int)))) (x_up (ea := (fun p_ => PyData.list (f0 p_))) (eb := (eL (eT eI))) (fun x_ => []) (fun _ => rfl) (x_lst (xa_cv (t' := some (())) xa_nil rfl) (fun _ => (by decide : 0 ≤ 1000)))) rfl)
              · refine xb_weak (L' := [(some (some ((eL eI) script))), (some (some (eX s_1))), (some (some (eI y_1))), (some none), none, none, none, none, none, (some (some (eI q_1.1))), (some (some ((eL (eT eI)) st_2))), (some (some ((eL (eT eI)) late))), (some none), none, none, (some none)]) ?_ ⟨rfl, rfl, rfl, rfl, rfl, rfl, rfl, rfl, rfl, trivial⟩
                refine xb_thn (σ := ((List (List Int)))) (env := (fun (st_ : ((List (List Int)))) => [(some (some ((eL eI) script))), (some (some (eX s_1))), (some (some (eI y_1))), (some none), none, none, none, none, none, (some (some (eI q_1.1))), (some (some ((eL (eT eI)) st_2))), (some (some ((eL (eT eI)) st_))), (some none), none, none, (some none)])) ?_ fun st_4 => ?_
                · refine xb_for (ea := (eT eI)) (env := (fun (st_ : ((List (List Int)))) => [(some (some ((eL eI) script))), (some (some (eX s_1))), (some (some (eI y_1))), (some none), none, none, none, none, none, (some (some (eI q_1.1))), (some (some ((eL (eT eI)) st_2))), (some (some ((eL (eT eI)) st_))), (some none), none, none, (some none)])) (f := l1_law) (s0 := (late)) (L := [(some (some ((eL eI) script))), (some (some (eX s_1))), (some (some (eI y_1))), (some none), none, none, none, none, none, (some (some (eI q_1.1))), (some (some ((eL (eT eI)) st_2))), (some (some ((eL (eT eI)) late))), (some none), none, none, (some none)]) ?_ ⟨rfl, rfl, rfl, rfl, rfl, rfl, rfl, rfl, rfl, trivial⟩ (fun st_3 y_2 => xg_nm) (fun st_3 y_2 => ?_)
                  · exact (xi2 (xi_list (ea := (eT eI)) (x_var (ea := (eL (eT eI))) (v := st_2) rfl)))
                  · unfold l1_law
                    refine xb_weak (L' := [(some (some ((eL eI) script))), (some (some (eX s_1))), (some (some (eI y_1))), (some none), (some (some ((eT eI) y_2))), none, none, none, none, (some (some (eI q_1.1))), (some (some ((eL (eT eI)) st_2))), (some (some ((eL (eT eI)) st_3))), (some none), none, none, (some none)]) ?_ ⟨rfl, rfl, rfl, rfl, rfl, rfl, rfl, rfl, rfl, rfl, trivial⟩
                    refine xb_seq_nx ?_
                    refine xb_asg (ea := (eL (eT eI))) ?_ (fun late_1 => xg_nm) fun late_1 => ?_
                    · exact (x_cv (t' := (Option.bind (compG (fun (y_3 : Int) => (some true)) (fun (y_3 : Int) => catT y_2 ([y_3])) ([(1, 2, (-1), (-2)).1, (1, 2, (-1), (-2)).2.1, (1, 2, (-1), (-2)).2.2.1, (1, 2, (-1), (-2)).2.2.2])) fun x_20 => catT st_3 x_20)) (x_bin (ea := (eL (eT eI))) (eb := (eL (eT eI))) (ec := (eL (eT eI))) (f := (fun a_ b_ => catT a_ b_)) q_catL (xo_val (x_var (ea := (eL (eT eI))) (v := st_3) rfl)) (xo_val (x_compIT (ea := eI) (eb := (eT eI)) (p := fun (y_3 : Int) => (some true)) (f := fun (y_3 : Int) => catT y_2 ([y_3])) (xi_cv (t' := some ([(1, 2, (-1), (-2)).1, (1, 2, (-1), (-2)).2.1, (1, 2, (-1), (-2)).2.2.1, (1, 2, (-1), (-2)).2.2.2])) (xi_tu (ea := (eTu (fC eI (fC eI (fC eI (f1 eI)))))) (eb := eI) (f := fun a_ => [a_.1, a_.2.1, a_.2.2.1, a_.2.2.2]) (fun _ => rfl) (x_cv (t' := some (1, 2, (-1), (-2))) (x_up (ea := (eTu (fC eI (fC eI (fC eI (fC eI f0)))))) (eb := (eTu (fC eI (fC eI (fC eI (f1 eI)))))) (fun x_ => (x_.1, x_.2.1, x_.2.2.1, x_.2.2.2.1)) (fun _ => rfl) (x_tup (xa_cv (t' := some (1, 2, (-1), (-2), ())) (xa_cons (o1 := false) (o2 := false) (xo_val (x_c (ea := eI) (v := 1) rfl)) (xa_cons (o1 := false) (o2 := false) (xo_val (x_c (ea := eI) (v := 2) rfl)) (xa_cons (o1 := false) (o2 := false) (xo_val (x_cv (t' := some (-1)) (x_un (ea := eI) (ec := eI) (f := fun a_ => some (-a_)) q_neg (xo_val (x_c (ea := eI) (v := 1) rfl)) okf) rfl)) (xa_cons (o1 := false) (o2 := false) (xo_val (x_cv (t' := some (-2)) (x_un (ea := eI) (ec := eI) (f := fun a_ => some (-a_)) q_neg (xo_val (x_c (ea := eI) (v := 2) rfl)) okf) rfl)) xa_nil)))) rfl) (fun _ => (by decide : 4 ≤ 1000)))) rfl)) rfl) (fun y_3 => xg_nm) (fun y_3 => ⟨rfl, rfl, rfl, rfl, rfl, rfl, rfl, rfl, rfl, rfl, trivial⟩) (fun y_3 => xt_yes) (fun y_3 => (x_binT (ea := (eT eI)) (eb := (eT eI)) (ec := (eT eI)) (f := (fun a_ b_ => catT a_ b_)) (a := y_2) (b := [y_3]) q_catT (xo_val (x_var (ea := (eT eI)) (v := y_2) rfl)) (xo_val (x_cv (t' := some ([y_3])) (x_up (ea := (eTu (fC eI f0))) (eb := (eT eI)) (fun x_ => [x_.1]) (fun _ => rfl) (x_tup (xa_cv (t' := some (y_3, ())) (xa_cons (o1 := false) (o2 := false) (xo_val (x_var (ea := eI) (v := y_3) rfl)) xa_nil) rfl) (fun _ => (by decide : 1 ≤ 1000)))) rfl)) okf)))) okf) (by first | with_reducible rfl | simp -implicitDefEqProofs only [Option.map_eq_bind, Option.bind_assoc, Option.bind_some, Function.comp_def] | rfl))
                    · refine xb_weak (L' := [(some (some ((eL eI) script))), (some (some (eX s_1))), (some (some (eI y_1))), (some none), (some (some ((eT eI) y_2))), none, none, none, none, (some (some (eI q_1.1))), (some (some ((eL (eT eI)) st_2))), (some (some ((eL (eT eI)) late_1))), (some none), none, none, (some none)]) ?_ ⟨rfl, rfl, rfl, rfl, rfl, rfl, rfl, rfl, rfl, rfl, trivial⟩
                      exact (xb_nx (env := (fun (st_ : ((List (List Int)))) => [(some (some ((eL eI) script))), (some (some (eX s_1))), (some (some (eI y_1))), (some none), none, none, none, none, none, (some (some (eI q_1.1))), (some (some ((eL (eT eI)) st_2))), (some (some ((eL (eT eI)) st_))), (some none), none, none, (some none)])) (s := (late_1)) ⟨rfl, rfl, rfl, rfl, rfl, rfl, rfl, rfl, rfl, trivial⟩)
                · refine xb_weak (L' := [(some (some ((eL eI) script))), (some (some (eX s_1))), (some (some (eI y_1))), (some none), none, none, none, none, none, (some (some (eI q_1.1))), (some (some ((eL (eT eI)) st_2))), (some (some ((eL (eT eI)) st_4))), (some none), none, none, (some none)]) ?_ ⟨rfl, rfl, rfl, rfl, rfl, rfl, rfl, rfl, rfl, trivial⟩
                  refine xb_seq_nx ?_
                  refine xb_asg (ea := (eL (eT eI))) ?_ (fun words => xg_nm) fun words => ?_
                  · exact (x_compIT (ea := (eT eI)) (eb := (eT eI)) (p := fun (y_4 : (List Int)) => (Option.bind (Option.bind (Option.bind (atI y_4 0) fun x_21 => Option.bind (atI y_4 (-1)) fun x_22 => mulT x_21 x_22) fun x_23 => some ((decide (0 < x_23)))) fun x_ => if x_ = true then (Option.bind (atI y_4 0) fun x_24 => some ((memT x_24 ([1, (-1)])))) else some false)) (f := fun (y_4 : (List Int)) => (some y_4)) (xi_list (ea := (eT eI)) (x_var (ea := (eL (eT eI))) (v := st_4) rfl)) (fun y_4 => xg_nm) (fun y_4 => ⟨rfl, rfl, rfl, rfl, rfl, rfl, rfl, rfl, rfl, rfl, trivial⟩) (fun y_4 => (xt_cv (t' := (Option.bind (Option.bind (Option.bind (atI y_4 0) fun x_21 => Option.bind (atI y_4 (-1)) fun x_22 => mulT x_21 x_22) fun x_23 => some ((decide (0 < x_23)))) fun x_ => if x_ = true then (Option.bind (atI y_4 0) fun x_24 => some ((memT x_24 ([1, (-1)])))) else some false)) (xt_and (xt_test (x_cv (t' := (Option.bind (Option.bind (atI y_4 0) fun x_21 => Option.bind (atI y_4 (-1)) fun x_22 => mulT x_21 x_22) fun x_23 => some ((decide (0 < x_23))))) (x_bin (ea := eI) (eb := eI) (ec := eB) (f := (fun a_ b_ => some ((decide (b_ < a_))))) q_gt (xo_val (x_cv (t' := (Option.bind (atI y_4 0) fun x_21 => Option.bind (atI y_4 (-1)) fun x_22 => mulT x_21 x_22)) (x_bin (ea := eI) (eb := eI) (ec := eI) (f := (fun a_ b_ => mulT a_ b_)) q_mul (xo_val (x_binT (ea := (eT eI)) (eb := eI) (ec := eI) (f := (fun a_ b_ => atI a_ b_)) (a := y_4) (b := 0) q_itemT (xo_val (x_var (ea := (eT eI)) (v := y_4) rfl)) (xo_val (x_c (ea := eI) (v := 0) rfl)) okf)) (xo_val (x_binT (ea := (eT eI)) (eb := eI) (ec := eI) (f := (fun a_ b_ => atI a_ b_)) (a := y_4) (b := (-1)) q_itemT (xo_val (x_var (ea := (eT eI)) (v := y_4) rfl)) (xo_val (x_cv (t' := some (-1)) (x_un (ea := eI) (ec := eI) (f := fun a_ => some (-a_)) q_neg (xo_val (x_c (ea := eI) (v := 1) rfl)) okf) rfl)) okf)) okf) (by first | with_reducible rfl | simp -implicitDefEqProofs only [Option.map_eq_bind, Option.bind_assoc, Option.bind_some, Function.comp_def] | rfl))) (xo_val (x_c (ea := eI) (v := 0) rfl)) okf) (by first | with_reducible rfl | simp -implicitDefEqProofs only [Option.map_eq_bind, Option.bind_assoc, Option.bind_some, Function.comp_def] | rfl))) (xt_test (x_cv (t' := (Option.bind (atI y_4 0) fun x_24 => some ((memT x_24 ([1, (-1)]))))) (x_bin (ea := eI) (eb := (eT eI)) (ec := eB) (f := (fun a_ b_ => some ((memT a_ b_)))) (q_inT eqI) (xo_val (x_binT (ea := (eT eI)) (eb := eI) (ec := eI) (f := (fun a_ b_ => atI a_ b_)) (a := y_4) (b := 0) q_itemT (xo_val (x_var (ea := (eT eI)) (v := y_4) rfl)) (xo_val (x_c (ea := eI) (v := 0) rfl)) okf)) (xo_val (x_cv (t' := some ([1, (-1)])) (x_up (ea := (eTu (fC eI (fC eI f0)))) (eb := (eT eI)) (fun x_ => [x_.1, x_.2.1]) (fun _ => rfl) (x_tup (xa_cv (t' := some (1, (-1), ())) (xa_cons (o1 := false) (o2 := false) (xo_val (x_c (ea := eI) (v := 1) rfl)) (xa_cons (o1 := false) (o2 := false) (xo_val (x_cv (t' := some (-1)) (x_un (ea := eI) (ec := eI) (f := fun a_ => some (-a_)) q_neg (xo_val (x_c (ea := eI) (v := 1) rfl)) okf) rfl)) xa_nil)) rfl) (fun _ => (by decide : 2 ≤ 1000)))) rfl)) okf) (by first | with_reducible rfl | simp -implicitDefEqProofs only [Option.map_eq_bind, Option.bind_assoc, Option.bind_some, Function.comp_def] | rfl)))) rfl)) (fun y_4 => (x_var (ea := (eT eI)) (v := y_4) rfl)))
                  · refine xb_weak (L' := [(some (some ((eL eI) script))), (some (some (eX s_1))), (some (some (eI y_1))), (some none), none, none, none, none, none, (some (some (eI q_1.1))), (some (some ((eL (eT eI)) words))), (some (some ((eL (eT eI)) st_4))), (some none), none, none, (some none)]) ?_ ⟨rfl, rfl, rfl, rfl, rfl, rfl, rfl, rfl, rfl, trivial⟩
                    exact (xb_nx (env := (fun (st_ : ((List (List Int)))) => [(some (some ((eL eI) script))), (some (some (eX s_1))), none, (some none), none, none, none, none, none, (some (some (eI q_1.1))), (some (some ((eL (eT eI)) st_))), none, (some none), none, none, (some none)])) (s := (words)) ⟨rfl, rfl, rfl, rfl, rfl, rfl, rfl, trivial⟩)
          · refine xb_weak (L' := [(some (some ((eL eI) script))), (some (some (eX s_1))), none, (some none), none, none, none, none, none, (some (some (eI q_1.1))), (some (some ((eL (eT eI)) st_5))), none, (some none), none, none, (some none)]) ?_ ⟨rfl, rfl, rfl, rfl, rfl, rfl, rfl, trivial⟩
            refine xb_ifG ?_ gone_ret ?_ ?_
            · exact (xt_test (x_cv (t' := (Option.bind (shlT 1 q_1.1) fun x_25 => some ((!decide ((st_5.length : Int) = x_25))))) (x_bin (ea := eI) (eb := eI) (ec := eB) (f := (fun a_ b_ => some ((!decide (a_ = b_))))) (q_ne eqI) (xo_val (x_cv (t' := some (st_5.length : Int)) (x_callB (ec := eI) (f := (fun (p_ : (List (List Int)) × Unit) => some ((p_.1.length : Int)))) (q_lenL (ea := (eT eI))) (xa_cons (o1 := false) (o2 := false) (xo_val (x_var (ea := (eL (eT eI))) (v := st_5) rfl)) xa_nil) okf) rfl)) (xo_val (x_binT (ea := eI) (eb := eI) (ec := eI) (f := (fun a_ b_ => shlT a_ b_)) (a := 1) (b := q_1.1) q_shl (xo_val (x_c (ea := eI) (v := 1) rfl)) (xo_val (x_var (ea := eI) (v := q_1.1) rfl)) okf)) okf) (by first | with_reducible rfl | simp -implicitDefEqProofs only [Option.map_eq_bind, Option.bind_assoc, Option.bind_some, Function.comp_def] | rfl)))
            · refine xb_weak (L' := [(some (some ((eL eI) script))), (some (some (eX s_1))), none, (some none), none, none, none, none, none, (some (some (eI q_1.1))), (some (some ((eL (eT eI)) st_5))), none, (some none), none, none, (some none)]) ?_ ⟨rfl, rfl, rfl, rfl, rfl, rfl, rfl, trivial⟩
              exact (xb_retI (rv_ok rfl) (XP.w (x_c (ea := eB) (v := false) rfl)))
            · refine xb_weak (L' := [(some (some ((eL eI) script))), (some (some (eX s_1))), none, (some none), none, none, none, none, none, (some (some (eI q_1.1))), (some (some ((eL (eT eI)) st_5))), none, (some none), none, none, (some none)]) ?_ ⟨rfl, rfl, rfl, rfl, rfl, rfl, rfl, trivial⟩
              refine xb_asg (ea := eA) ?_ (fun fractions => xg_nm) fun fractions => ?_
              · exact (x_c (ea := eA) (v := PyData.dict []) rfl)
              · refine xb_weak (L' := [(some (some ((eL eI) script))), (some (some (eX s_1))), none, (some (some (eA fractions))), none, none, none, none, none, (some (some (eI q_1.1))), (some (some ((eL (eT eI)) st_5))), none, (some none), none, none, (some none)]) ?_ ⟨rfl, rfl, rfl, rfl, rfl, rfl, rfl, trivial⟩
                refine xb_thnC (σ := (PyData)) (Rr := (RV 16 eB)) (env := (fun (st_ : (PyData)) => [(some (some ((eL eI) script))), (some (some (eX s_1))), none, (some (some (eA st_))), none, none, none, none, none, (some (some (eI q_1.1))), (some (some ((eL (eT eI)) st_5))), none, none, none, none, (some none)])) (kb := fun _ => none) (kc := fun _ => none) (k := (fun v_ => v_)) (fun _ _ h_ => h_) rv_nn (fun _ _ h_ => nomatch h_) (fun _ _ h_ => nomatch h_) ?_ fun st_7 => ?_
                · refine xb_forC (ea := (eT eI)) (env := (fun (st_ : (PyData)) => [(some (some ((eL eI) script))), (some (some (eX s_1))), none, (some (some (eA st_))), none, none, none, none, none, (some (some (eI q_1.1))), (some (some ((eL (eT eI)) st_5))), none, none, none, none, (some none)])) (f := l3_law) (s0 := (fractions)) (L := [(some (some ((eL eI) script))), (some (some (eX s_1))), none, (some (some (eA fractions))), none, none, none, none, none, (some (some (eI q_1.1))), (some (some ((eL (eT eI)) st_5))), none, (some none), none, none, (some none)]) (Rr := (RV 16 eB)) rv_rt ?_ ⟨rfl, rfl, rfl, rfl, rfl, rfl, trivial⟩ (fun st_6 y_5 => xg_nm) (fun st_6 y_5 => ?_)
                  · exact (xi2 (xi_list (ea := (eT eI)) (x_var (ea := (eL (eT eI))) (v := st_5) rfl)))
                  · unfold l3_law
                    refine xb_weak (L' := [(some (some ((eL eI) script))), (some (some (eX s_1))), none, (some (some (eA st_6))), (some (some ((eT eI) y_5))), none, none, none, none, (some (some (eI q_1.1))), (some (some ((eL (eT eI)) st_5))), none, none, none, none, (some none)]) ?_ ⟨rfl, rfl, rfl, rfl, rfl, rfl, rfl, trivial⟩
                    refine xb_asg (ea := (eTu (fC eI (f1 eI)))) ?_ (fun fraction => xg_nm) fun fraction => ?_
                    · exact (x_callT (f := (fun (p_ : (Int × (List Int)) × Unit) => t_state_fraction p_.1)) (p := ((0, y_5), ())) k_state_fraction (xa_cv (t' := some ((0, y_5), ())) (xa_cons (o1 := false) (o2 := false) (xo_val (x_cv (t' := some (0, y_5)) (x_up (ea := (eTu (fC eI (fC (eT eI) f0)))) (eb := (eTu (fC eI (f1 (eT eI))))) (fun x_ => (x_.1, x_.2.1)) (fun _ => rfl) (x_tup (xa_cv (t' := some (0, y_5, ())) (xa_cons (o1 := false) (o2 := false) (xo_val (x_c (ea := eI) (v := 0) rfl)) (xa_cons (o1 := false) (o2 := false) (xo_val (x_var (ea := (eT eI)) (v := y_5) rfl)) xa_nil)) rfl) (fun _ => (by decide : 2 ≤ 1000)))) rfl)) xa_nil) rfl) okk)
                    · refine xb_weak (L' := [(some (some ((eL eI) script))), (some (some (eX s_1))), none, (some (some (eA st_6))), (some (some ((eT eI) y_5))), none, none, none, none, (some (some (eI q_1.1))), (some (some ((eL (eT eI)) st_5))), none, (some (some ((eTu (fC eI (f1 eI))) fraction))), none, none, (some none)]) ?_ ⟨rfl, rfl, rfl, rfl, rfl, rfl, rfl, rfl, trivial⟩
                      refine xb_ifG ?_ gone_ret ?_ ?_
                      · exact (xt_cv (t' := (Option.bind (dInT .dt st_6 ((eTu (fC eI (f1 eI))) fraction)) fun x_ => if x_ = true then some true else (Option.bind (Option.bind (t_law_told fraction) fun x_26 => Option.bind (neD (eA x_26) ((eTu (fC eI (f1 (eT eI)))) (0, y_5))) bOf) fun x_ => if x_ = true then some true else (Option.bind (t_is_told_state (0, y_5)) fun x_27 => some ((!decide (x_27 = true))))))) (xt_or (xt_test (x_cv (t' := dInT .dt st_6 ((eTu (fC eI (f1 eI))) fraction)) (x_dIn (ea := (eTu (fC eI (f1 eI)))) (d := st_6) rfl (x_var (ea := (eTu (fC eI (f1 eI)))) (v := fraction) rfl)) (by first | with_reducible rfl | simp -implicitDefEqProofs only [Option.map_eq_bind, Option.bind_assoc, Option.bind_some, Function.comp_def] | rfl))) (xt_cv (t' := (Option.bind (Option.bind (t_law_told fraction) fun x_26 => Option.bind (neD (eA x_26) ((eTu (fC eI (f1 (eT eI)))) (0, y_5))) bOf) fun x_ => if x_ = true then some true else (Option.bind (t_is_told_state (0, y_5)) fun x_27 => some ((!decide (x_27 = true)))))) (xt_or (xt_test (x_cv (t' := (Option.bind (t_law_told fraction) fun x_26 => Option.bind (neD (eA x_26) ((eTu (fC eI (f1 (eT eI)))) (0, y_5))) bOf)) (x_bin (ea := eA) (eb := (eTu (fC eI (f1 (eT eI))))) (ec := eB) (f := (fun a_ b_ => Option.bind (neD (eA a_) ((eTu (fC eI (f1 (eT eI)))) b_)) bOf)) (q_ext2 bOf_x) (xo_val (x_callT (f := (fun (p_ : (Int × Int) × Unit) => t_law_told p_.1)) (p := (fraction, ())) k__law_told (xa_cv (t' := some (fraction, ())) (xa_cons (o1 := false) (o2 := false) (xo_val (x_var (ea := (eTu (fC eI (f1 eI)))) (v := fraction) rfl)) xa_nil) rfl) okk)) (xo_val (x_cv (t' := some (0, y_5)) (x_up (ea := (eTu (fC eI (fC (eT eI) f0)))) (eb := (eTu (fC eI (f1 (eT eI))))) (fun x_ => (x_.1, x_.2.1)) (fun _ => rfl) (x_tup (xa_cv (t' := some (0, y_5, ())) (xa_cons (o1 := false) (o2 := false) (xo_val (x_c (ea := eI) (v := 0) rfl)) (xa_cons (o1 := false) (o2 := false) (xo_val (x_var (ea := (eT eI)) (v := y_5) rfl)) xa_nil)) rfl) (fun _ => (by decide : 2 ≤ 1000)))) rfl)) okf) (by first | with_reducible rfl | simp -implicitDefEqProofs only [Option.map_eq_bind, Option.bind_assoc, Option.bind_some, Function.comp_def] | rfl))) (xt_test (x_cv (t' := (Option.bind (t_is_told_state (0, y_5)) fun x_27 => some ((!decide (x_27 = true))))) (x_bin (ea := eB) (eb := eB) (ec := eB) (f := (fun a_ b_ => some ((!decide (a_ = b_))))) q_isNotB (xo_val (x_callT (f := (fun (p_ : (Int × (List Int)) × Unit) => t_is_told_state p_.1)) (p := ((0, y_5), ())) k_is_told_state (xa_cv (t' := some ((0, y_5), ())) (xa_cons (o1 := false) (o2 := false) (xo_val (x_cv (t' := some (0, y_5)) (x_up (ea := (eTu (fC eI (fC (eT eI) f0)))) (eb := (eTu (fC eI (f1 (eT eI))))) (fun x_ => (x_.1, x_.2.1)) (fun _ => rfl) (x_tup (xa_cv (t' := some (0, y_5, ())) (xa_cons (o1 := false) (o2 := false) (xo_val (x_c (ea := eI) (v := 0) rfl)) (xa_cons (o1 := false) (o2 := false) (xo_val (x_var (ea := (eT eI)) (v := y_5) rfl)) xa_nil)) rfl) (fun _ => (by decide : 2 ≤ 1000)))) rfl)) xa_nil) rfl) okk)) (xo_val (x_c (ea := eB) (v := true) rfl)) okf) (by first | with_reducible rfl | simp -implicitDefEqProofs only [Option.map_eq_bind, Option.bind_assoc, Option.bind_some, Function.comp_def] | rfl)))) rfl)) rfl)
                      · refine xb_weak (L' := [(some (some ((eL eI) script))), (some (some (eX s_1))), none, (some (some (eA st_6))), (some (some ((eT eI) y_5))), none, none, none, none, (some (some (eI q_1.1))), (some (some ((eL (eT eI)) st_5))), none, (some (some ((eTu (fC eI (f1 eI))) fraction))), none, none, (some none)]) ?_ ⟨rfl, rfl, rfl, rfl, rfl, rfl, rfl, rfl, trivial⟩
                        exact (xb_cv (xb_ret (k := fun v_ => (Ctl.rt v_)) (rv_ok rfl) (XP.w (x_c (ea := eB) (v := false) rfl))) rfl)
                      · refine xb_weak (L' := [(some (some ((eL eI) script))), (some (some (eX s_1))), none, (some (some (eA st_6))), (some (some ((eT eI) y_5))), none, none, none, none, (some (some (eI q_1.1))), (some (some ((eL (eT eI)) st_5))), none, (some (some ((eTu (fC eI (f1 eI))) fraction))), none, none, (some none)]) ?_ ⟨rfl, rfl, rfl, rfl, rfl, rfl, rfl, rfl, trivial⟩
                        refine xb_seq_nx ?_
                        refine xb_dPut (kd := .dt) (ea := (eT eI)) (eb := (eTu (fC eI (f1 eI)))) (d := st_6) rfl (t := (some y_5)) (tk := (some fraction)) ?_ ?_ rfl fun fractions_1 => ?_
                        · exact (x_var (ea := (eT eI)) (v := y_5) rfl)
                        · exact (x_var (ea := (eTu (fC eI (f1 eI)))) (v := fraction) rfl)
                        · refine xb_weak (L' := [(some (some ((eL eI) script))), (some (some (eX s_1))), none, (some (some (eA fractions_1))), (some (some ((eT eI) y_5))), none, none, none, none, (some (some (eI q_1.1))), (some (some ((eL (eT eI)) st_5))), none, (some (some ((eTu (fC eI (f1 eI))) fraction))), none, none, (some none)]) ?_ ⟨rfl, rfl, rfl, rfl, rfl, rfl, rfl, rfl, trivial⟩
                          exact (xb_nxc (Rr := (RV 16 eB)) (env := (fun (st_ : (PyData)) => [(some (some ((eL eI) script))), (some (some (eX s_1))), none, (some (some (eA st_))), none, none, none, none, none, (some (some (eI q_1.1))), (some (some ((eL (eT eI)) st_5))), none, none, none, none, (some none)])) (s := (fractions_1)) ⟨rfl, rfl, rfl, rfl, rfl, rfl, trivial⟩)
                · refine xb_weak (L' := [(some (some ((eL eI) script))), (some (some (eX s_1))), none, (some (some (eA st_7))), none, none, none, none, none, (some (some (eI q_1.1))), (some (some ((eL (eT eI)) st_5))), none, none, none, none, (some none)]) ?_ ⟨rfl, rfl, rfl, rfl, rfl, rfl, trivial⟩
                  exact (xb_retI (rv_ok rfl) (XP.w (x_cv (t' := (Option.bind (Option.bind (t_state_of_fraction (2, 3)) fun x_28 => some ((decide (x_28 = (0, ([1, 1, 2])))))) fun x_ => if x_ = true then (Option.bind (Option.bind (t_law_told (2, 4)) fun x_29 => some ((isNon (eA x_29)))) fun x_ => if x_ = true then (Option.bind (t_law_told (0, 0)) fun x_30 => some ((isNon (eA x_30)))) else some false) else some false)) (x_and (x_cv (t' := (Option.bind (t_state_of_fraction (2, 3)) fun x_28 => some ((decide (x_28 = (0, ([1, 1, 2]))))))) (x_bin (ea := (eTu (fC eI (f1 (eT eI))))) (eb := (eTu (fC eI (f1 (eT eI))))) (ec := eB) (f := (fun a_ b_ => some ((decide (a_ = b_))))) (q_eqE (q_eq (eqTu (eqC eqI (eq1 (eqT eqI)))))) (xo_val (x_callT (f := (fun (p_ : (Int × Int) × Unit) => t_state_of_fraction p_.1)) (p := ((2, 3), ())) k_state_of_fraction (xa_cv (t' := some ((2, 3), ())) (xa_cons (o1 := false) (o2 := false) (xo_val (x_cv (t' := some (2, 3)) (x_up (ea := (eTu (fC eI (fC eI f0)))) (eb := (eTu (fC eI (f1 eI)))) (fun x_ => (x_.1, x_.2.1)) (fun _ => rfl) (x_tup (xa_cv (t' := some (2, 3, ())) (xa_cons (o1 := false) (o2 := false) (xo_val (x_c (ea := eI) (v := 2) rfl)) (xa_cons (o1 := false) (o2 := false) (xo_val (x_c (ea := eI) (v := 3) rfl)) xa_nil)) rfl) (fun _ => (by decide : 2 ≤ 1000)))) rfl)) xa_nil) rfl) okk)) (xo_val (x_cv (t' := some (0, ([1, 1, 2]))) (x_up (ea := (eTu (fC eI (fC (eT eI) f0)))) (eb := (eTu (fC eI (f1 (eT eI))))) (fun x_ => (x_.1, x_.2.1)) (fun _ => rfl) (x_tup (xa_cv (t' := some (0, ([1, 1, 2]), ())) (xa_cons (o1 := false) (o2 := false) (xo_val (x_c (ea := eI) (v := 0) rfl)) (xa_cons (o1 := false) (o2 := false) (xo_val (x_cv (t' := some ([1, 1, 2])) (x_up (ea := (eTu (fC eI (fC eI (fC eI f0))))) (eb := (eT eI)) (fun x_ => [x_.1, x_.2.1, x_.2.2.1]) (fun _ => rfl) (x_tup (xa_cv (t' := some (1, 1, 2, ())) (xa_cons (o1 := false) (o2 := false) (xo_val (x_c (ea := eI) (v := 1) rfl)) (xa_cons (o1 := false) (o2 := false) (xo_val (x_c (ea := eI) (v := 1) rfl)) (xa_cons (o1 := false) (o2 := false) (xo_val (x_c (ea := eI) (v := 2) rfl)) xa_nil))) rfl) (fun _ => (by decide : 3 ≤ 1000)))) rfl)) xa_nil)) rfl) (fun _ => (by decide : 2 ≤ 1000)))) rfl)) okf) (by first | with_reducible rfl | simp -implicitDefEqProofs only [Option.map_eq_bind, Option.bind_assoc, Option.bind_some, Function.comp_def] | rfl)) (x_cv (t' := (Option.bind (Option.bind (t_law_told (2, 4)) fun x_29 => some ((isNon (eA x_29)))) fun x_ => if x_ = true then (Option.bind (t_law_told (0, 0)) fun x_30 => some ((isNon (eA x_30)))) else some false)) (x_and (x_cv (t' := (Option.bind (t_law_told (2, 4)) fun x_29 => some ((isNon (eA x_29))))) (x_bin (ea := eA) (eb := eN) (ec := eB) (f := (fun a_ b_ => some ((isNon (eA a_))))) (q_isN (ea := eA)) (xo_val (x_callT (f := (fun (p_ : (Int × Int) × Unit) => t_law_told p_.1)) (p := ((2, 4), ())) k__law_told (xa_cv (t' := some ((2, 4), ())) (xa_cons (o1 := false) (o2 := false) (xo_val (x_cv (t' := some (2, 4)) (x_up (ea := (eTu (fC eI (fC eI f0)))) (eb := (eTu (fC eI (f1 eI)))) (fun x_ => (x_.1, x_.2.1)) (fun _ => rfl) (x_tup (xa_cv (t' := some (2, 4, ())) (xa_cons (o1 := false) (o2 := false) (xo_val (x_c (ea := eI) (v := 2) rfl)) (xa_cons (o1 := false) (o2 := false) (xo_val (x_c (ea := eI) (v := 4) rfl)) xa_nil)) rfl) (fun _ => (by decide : 2 ≤ 1000)))) rfl)) xa_nil) rfl) okk)) (xo_val (x_c (ea := eN) (v := ()) rfl)) okf) (by first | with_reducible rfl | simp -implicitDefEqProofs only [Option.map_eq_bind, Option.bind_assoc, Option.bind_some, Function.comp_def] | rfl)) (x_cv (t' := (Option.bind (t_law_told (0, 0)) fun x_30 => some ((isNon (eA x_30))))) (x_bin (ea := eA) (eb := eN) (ec := eB) (f := (fun a_ b_ => some ((isNon (eA a_))))) (q_isN (ea := eA)) (xo_val (x_callT (f := (fun (p_ : (Int × Int) × Unit) => t_law_told p_.1)) (p := ((0, 0), ())) k__law_told (xa_cv (t' := some ((0, 0), ())) (xa_cons (o1 := false) (o2 := false) (xo_val (x_cv (t' := some (0, 0)) (x_up (ea := (eTu (fC eI (fC eI f0)))) (eb := (eTu (fC eI (f1 eI)))) (fun x_ => (x_.1, x_.2.1)) (fun _ => rfl) (x_tup (xa_cv (t' := some (0, 0, ())) (xa_cons (o1 := false) (o2 := false) (xo_val (x_c (ea := eI) (v := 0) rfl)) (xa_cons (o1 := false) (o2 := false) (xo_val (x_c (ea := eI) (v := 0) rfl)) xa_nil)) rfl) (fun _ => (by decide : 2 ≤ 1000)))) rfl)) xa_nil) rfl) okk)) (xo_val (x_c (ea := eN) (v := ()) rfl)) okf) (by first | with_reducible rfl | simp -implicitDefEqProofs only [Option.map_eq_bind, Option.bind_assoc, Option.bind_some, Function.comp_def] | rfl))) rfl)) rfl))))
end K48

namespace K48
open PySem PySem.Spec PyProof.Rows L2 DL
abbrev St := Int × List Int
abbrev eSt : St → PyData := eTu (fC eI (f1 (eT eI)))
def okS (s : St) : Bool := (decide (s.1 = 0) || decide (s.1 = 1)) && (decide (s.2.length ≤ 60) && s.2.all fun l => decide (l = 1) || decide (l = -1) || decide (l = 2) || decide (l = -2))
def one (p q c : Int) : Bool := (decide (0 < p) && (decide (c = 1) && (!decide (q = 0) || decide (p = 1)))) || decide ((p, q) = (0, 1))
def chk (p q : Int) : Bool := match t_law_common p q with
  | some c => match one p q c with
    | true => match t_law_of_fraction p q with
      | some s => decide (t_y_state_of_fraction (p, q) = some false) && (decide (t_state_of_fraction (p, q) = some s) && (decide (t_state_fraction s = some (p, q)) && (decide (t_is_told_state s = some true) && okS s)))
      | none => false
    | false => decide (t_y_state_of_fraction (p, q) = some true)
  | none => false
def chkAll (far : Nat) : Bool := (List.range (far + 2)).all fun i => (List.range (2 * far + 1)).all fun j => chk ((i : Int) - 1) ((j : Int) - far)
set_option maxHeartbeats 0 in
theorem chk2 : chkAll 2 = true := by decide +kernel
set_option maxHeartbeats 0 in
theorem chk4 : chkAll 4 = true := by decide +kernel
set_option maxHeartbeats 0 in
theorem chk9 : chkAll 9 = true := by decide +kernel
set_option maxHeartbeats 0 in
theorem chk30 : chkAll 30 = true := by decide +kernel
end K48

namespace K48
open PySem PySem.Spec PyProof.Rows L2 DL
theorem all_of {far : Nat} (hc : chkAll far = true) {p q : Int} (h1 : -1 ≤ p) (h2 : p ≤ far) (h3 : -far ≤ q) (h4 : q ≤ far) : chk p q = true := by
  have h5 := List.all_eq_true.mp (show ((List.range (far + 2)).all fun i => (List.range (2 * far + 1)).all fun j => chk ((i : Int) - 1) ((j : Int) - far)) = true from hc) (p + 1).toNat (List.mem_range.mpr (by omega))
  have h6 := List.all_eq_true.mp h5 (q + far).toNat (List.mem_range.mpr (by omega))
  have e1 : ((p + 1).toNat : Int) - 1 = p := by omega
  have e2 : ((q + far).toNat : Int) - far = q := by omega
  rw [e1, e2] at h6
  exact h6
theorem chk_of {far : Nat} (h : far = 2 ∨ far = 4 ∨ far = 9 ∨ far = 30) {p q : Int} (h1 : -1 ≤ p) (h2 : p ≤ far) (h3 : -far ≤ q) (h4 : q ≤ far) : chk p q = true := by
  refine all_of (far := far) ?_ h1 h2 h3 h4
  rcases h with h | h | h | h
  · rw [h]; exact chk2
  · rw [h]; exact chk4
  · rw [h]; exact chk9
  · rw [h]; exact chk30
theorem chk_ex {p q : Int} (h : chk p q = true) : ∃ c, t_law_common p q = some c ∧ ((one p q c = false ∧ t_y_state_of_fraction (p, q) = some true) ∨
    (one p q c = true ∧ ∃ s, t_law_of_fraction p q = some s ∧ t_y_state_of_fraction (p, q) = some false ∧ t_state_of_fraction (p, q) = some s ∧ t_state_fraction s = some (p, q) ∧ t_is_told_state s = some true ∧ okS s = true)) := by
  unfold chk at h
  split at h
  · rename_i c hc
    refine ⟨c, hc, ?_⟩
    split at h
    · rename_i ho
      split at h
      · rename_i s hs
        simp only [Bool.and_eq_true, decide_eq_true_eq] at h
        exact .inr ⟨ho, s, hs, h.1, h.2.1, h.2.2.1, h.2.2.2.1, h.2.2.2.2⟩
      · cases h
    · rename_i ho
      exact .inl ⟨ho, by simpa using h⟩
  · cases h
theorem told_no {f : Int × Int} (h : t_y_state_of_fraction f = some true) : t_law_told f = some .none := by
  unfold t_law_told; rw [h]; rfl
theorem told_yes {f : Int × Int} {s : St} (h : t_y_state_of_fraction f = some false) (h2 : t_state_of_fraction f = some s) : t_law_told f = some (eSt s) := by
  unfold t_law_told; rw [h, h2]; rfl
theorem okA_ints {w : List Int} (h : ∀ l ∈ w, l.natAbs < 2 ^ 64) : okA (w.map .int) = true := by
  induction w with
  | nil => rfl
  | cons l w ih =>
    show (decide (l.natAbs < 2 ^ 64) && okA (w.map .int)) = true
    rw [decide_eq_true (h l List.mem_cons_self), ih fun x hx => h x (List.mem_cons_of_mem _ hx)]
    rfl
theorem szA_ints (w : List Int) : szA (w.map .int) = 72 * w.length := by
  induction w with
  | nil => rfl
  | cons l w ih =>
    show 70 + 2 + szA (w.map .int) = _
    rw [ih, List.length_cons]; omega
theorem repr_st {s : St} (h : okS s = true) : reprT (eSt s) = some (eSt s).shown := by
  obtain ⟨b, w⟩ := s
  unfold okS at h
  simp only [Bool.and_eq_true, Bool.or_eq_true, decide_eq_true_eq, List.all_eq_true] at h
  obtain ⟨hb, hl, hL⟩ := h
  refine reprT_ok (reprOk_of ?_ ?_ ?_)
  · show (decide (b.natAbs < 2 ^ 64) && (okA (w.map .int) && true)) = true
    rw [okA_ints fun l hl => by rcases hL l hl with ((rfl | rfl) | rfl) | rfl <;> decide]
    rcases hb with rfl | rfl <;> rfl
  · show 70 + 2 + (szA (w.map .int) + 3 + 2 + 0) + 3 ≤ _
    rw [szA_ints]; omega
  · show (PyData.tuple [.int b, .tuple (w.map .int)]).depth ≤ 60
    simp
theorem cast_st (s : St) : cvTu (cvC asI (cv1 (cvT asI))) (eSt s) = some s := (dcTu (dcC dcI (dc1 (dcT dcI)))).2 s
theorem far_ok {y : Nat} (h : y < 12) : ∃ far : Nat, Option.bind (fdivT (y : Int) 3) (fun x => atI ([2, 4, 9, 30] : List Int) x) = some (far : Int) ∧ (far = 2 ∨ far = 4 ∨ far = 9 ∨ far = 30) ∧ ∃ k : Int, fdivT (y : Int) 11 = some k ∧ 0 ≤ k ∧ k ≤ 1 := by
  have hy : y = 0 ∨ y = 1 ∨ y = 2 ∨ y = 3 ∨ y = 4 ∨ y = 5 ∨ y = 6 ∨ y = 7 ∨ y = 8 ∨ y = 9 ∨ y = 10 ∨ y = 11 := by omega
  rcases hy with rfl | rfl | rfl | rfl | rfl | rfl | rfl | rfl | rfl | rfl | rfl | rfl
  · exact ⟨2, by decide +kernel, by decide, 0, by decide +kernel, by decide, by decide⟩
  · exact ⟨2, by decide +kernel, by decide, 0, by decide +kernel, by decide, by decide⟩
  · exact ⟨2, by decide +kernel, by decide, 0, by decide +kernel, by decide, by decide⟩
  · exact ⟨4, by decide +kernel, by decide, 0, by decide +kernel, by decide, by decide⟩
  · exact ⟨4, by decide +kernel, by decide, 0, by decide +kernel, by decide, by decide⟩
  · exact ⟨4, by decide +kernel, by decide, 0, by decide +kernel, by decide, by decide⟩
  · exact ⟨9, by decide +kernel, by decide, 0, by decide +kernel, by decide, by decide⟩
  · exact ⟨9, by decide +kernel, by decide, 0, by decide +kernel, by decide, by decide⟩
  · exact ⟨9, by decide +kernel, by decide, 0, by decide +kernel, by decide, by decide⟩
  · exact ⟨30, by decide +kernel, by decide, 0, by decide +kernel, by decide, by decide⟩
  · exact ⟨30, by decide +kernel, by decide, 0, by decide +kernel, by decide, by decide⟩
  · exact ⟨30, by decide +kernel, by decide, 1, by decide +kernel, by decide, by decide⟩
theorem l0_ok (s : Src) {y : Nat} (h : y < 12) : ∃ s', l0_law s (y : Int) = some (.nx s') := by
  obtain ⟨far, e1, hf, k, e2, k0, k1⟩ := far_ok h
  have hfar : far ≤ 30 := by omega
  obtain ⟨r1, s1, e3, a1, a2⟩ := pickT_ex s ((far : Int) + 1) (by omega)
  obtain ⟨r2, s2, e4, b1, b2⟩ := pickT_ex s1 (2 * (far : Int) + 1) (by omega)
  have e5 : mulT 2 (far : Int) = some (2 * (far : Int)) := mulT_l (by decide)
  obtain ⟨c, hc, hx⟩ := chk_ex (chk_of hf (p := r1 - k) (q := r2 - far) (by omega) (by omega) (by omega) (by omega))
  refine ⟨s2, ?_⟩
  generalize hp : r1 - k = p at *
  generalize hq : r2 - (far : Int) = q at *
  have eo : ∀ t : Bool, one p q c = t → (Option.map (fun x_ => x_ || (decide ((p, q) = ((0 : Int), (1 : Int))))) (if (decide (0 < p)) = true then (Option.map (fun x_ => x_ && ((!decide (q = 0)) || (decide (p = 1)))) (Option.bind (t_law_common p q) fun x_9 => some ((decide (x_9 = 1))))) else some false)) = some t := fun t ht => by
    rw [hc, ← ht]
    unfold one
    by_cases h0 : 0 < p <;> simp [h0]
  unfold l0_law
  rcases hx with ⟨h1, h2⟩ | ⟨h1, st, h2, h3, h4, h5, h6, h7⟩
  · have t1 := told_no h2
    have n1 : reprT PyData.none = some PyData.none.shown := reprT_ok (by decide)
    simp only [thn2_ap, lif_ap, e1, e2, e3, e4, e5, Option.bind_some, Option.map_some, drw_some, hp, hq, eo _ h1, Bool.false_eq_true, if_false, t1, eN, eA, id, n1, DL.isNon, decide_true, Bool.not_true, Bool.false_eq_true, if_false]
  · have t1 := told_yes h3 h4
    have r1 := repr_st h7
    simp only [thn2_ap, lif_ap, e1, e2, e3, e4, e5, Option.bind_some, Option.map_some, drw_some, hp, hq, eo _ h1, if_true, h2, t1, eA, id]
    have i1 : DL.isNon (eSt st) = false := rfl
    have r2 : reprT (eTu (fC eI (f1 (eT eI))) st) = some (eSt st).shown := r1
    have c1 : cvTu (cvC asI (cv1 (cvT asI))) (eTu (fC eI (f1 (eT eI))) st) = some st := cast_st st
    simp only [r2, i1, c1, h5, h6, Option.bind_some, decide_true, Bool.not_true, Bool.not_false, Bool.false_eq_true, if_false, if_true]
end K48

namespace K48
open PySem PySem.Spec PyProof.Rows L2 DL
abbrev eF : Int × Int → PyData := eTu (fC eI (f1 eI))
abbrev Wd := List Int
/-- the words of k letters -/
def words (k : Nat) : Option (List Wd) := Option.bind (rng1T (k : Int)) fun x_ => forP l2_law x_ [([] : List Int)]
def fr (w : Wd) : Int × Int := (t_state_fraction (0, w)).getD (0, 0)
def chkW (w : Wd) : Bool := decide (t_state_fraction (0, w) = some (fr w)) && (decide (t_y_state_of_fraction (fr w) = some false) && (decide (t_state_of_fraction (fr w) = some (0, w)) && decide (t_is_told_state (0, w) = some true)))
def dis : List (Int × Int) → Bool
  | [] => true
  | x :: r => r.all (fun y => !decide (y = x)) && dis r
def ws1 : List Wd := [[1], [-1]]
theorem we1 : words 1 = some ws1 := by decide +kernel
theorem wc1 : ws1.all chkW = true := by decide +kernel
theorem wd1 : dis (ws1.map fr) = true := by decide +kernel
def ws2 : List Wd := [[1, 1], [1, 2], [-1, -1], [-1, -2]]
theorem we2 : words 2 = some ws2 := by decide +kernel
theorem wc2 : ws2.all chkW = true := by decide +kernel
theorem wd2 : dis (ws2.map fr) = true := by decide +kernel
def ws3 : List Wd := [[1, 1, 1], [1, 1, 2], [1, 2, 1], [1, 2, 2], [-1, -1, -1], [-1, -1, -2], [-1, -2, -1], [-1, -2, -2]]
theorem we3 : words 3 = some ws3 := by decide +kernel
theorem wc3 : ws3.all chkW = true := by decide +kernel
theorem wd3 : dis (ws3.map fr) = true := by decide +kernel
def ws4 : List Wd := [[1, 1, 1, 1], [1, 1, 1, 2], [1, 1, 2, 1], [1, 1, 2, 2], [1, 2, 1, 1], [1, 2, 1, 2], [1, 2, 2, 1], [1, 2, 2, 2], [-1, -1, -1, -1], [-1, -1, -1, -2], [-1, -1, -2, -1], [-1, -1, -2, -2], [-1, -2, -1, -1], [-1, -2, -1, -2], [-1, -2, -2, -1], [-1, -2, -2, -2]]
theorem we4 : words 4 = some ws4 := by decide +kernel
theorem wc4 : ws4.all chkW = true := by decide +kernel
theorem wd4 : dis (ws4.map fr) = true := by decide +kernel
def ws5 : List Wd := [[1, 1, 1, 1, 1], [1, 1, 1, 1, 2], [1, 1, 1, 2, 1], [1, 1, 1, 2, 2], [1, 1, 2, 1, 1], [1, 1, 2, 1, 2], [1, 1, 2, 2, 1], [1, 1, 2, 2, 2], [1, 2, 1, 1, 1], [1, 2, 1, 1, 2], [1, 2, 1, 2, 1], [1, 2, 1, 2, 2], [1, 2, 2, 1, 1], [1, 2, 2, 1, 2], [1, 2, 2, 2, 1], [1, 2, 2, 2, 2], [-1, -1, -1, -1, -1], [-1, -1, -1, -1, -2], [-1, -1, -1, -2, -1], [-1, -1, -1, -2, -2], [-1, -1, -2, -1, -1], [-1, -1, -2, -1, -2], [-1, -1, -2, -2, -1], [-1, -1, -2, -2, -2], [-1, -2, -1, -1, -1], [-1, -2, -1, -1, -2], [-1, -2, -1, -2, -1], [-1, -2, -1, -2, -2], [-1, -2, -2, -1, -1], [-1, -2, -2, -1, -2], [-1, -2, -2, -2, -1], [-1, -2, -2, -2, -2]]
theorem we5 : words 5 = some ws5 := by decide +kernel
theorem wc5 : ws5.all chkW = true := by decide +kernel
theorem wd5 : dis (ws5.map fr) = true := by decide +kernel
theorem keqF (a b : Int × Int) : keq (eF a) (eF b) = decide (a = b) := by
  obtain ⟨a1, a2⟩ := a
  obtain ⟨b1, b2⟩ := b
  show keqA [.int a1, .int a2] [.int b1, .int b2] = _
  unfold keqA keqA keqA keq1
  by_cases h1 : a1 = b1 <;> by_cases h2 : a2 = b2 <;> simp [h1, h2]
def dk (l : List Wd) : List (PyData × PyData) := l.map fun w => (eF (fr w), eT eI w)
theorem has_dk (l : List Wd) (f : Int × Int) : hasD (dk l) (eF f) = l.any fun w => decide (fr w = f) := by
  unfold hasD dk
  rw [List.any_map]
  congr 1
  funext w
  exact keqF _ _
theorem step {l : List Wd} {w : Wd} (hc : chkW w = true) (hn : ∀ v ∈ l, fr v ≠ fr w) (hl : l.length ≤ 1000) : l3_law (.dict (dk l)) w = some (.nx (.dict (dk (l ++ [w])))) := by
  unfold chkW at hc
  simp only [Bool.and_eq_true, decide_eq_true_eq] at hc
  obtain ⟨h1, h2, h3, h4⟩ := hc
  have h5 := told_yes h2 h3
  have hh : hasD (dk l) (eF (fr w)) = false := by
    rw [has_dk, Bool.eq_false_iff]
    intro h
    obtain ⟨v, hv, e⟩ := List.any_eq_true.mp h
    exact hn v hv (by simpa using e)
  have ok : kOk .dt (eF (fr w)) = true := rfl
  have d1 : dInT .dt (.dict (dk l)) (eF (fr w)) = some false := by unfold dInT; simp only [ok, if_true, hh]
  have hk : (dk l).length ≤ 1000000 := by unfold dk; rw [List.length_map]; omega
  have d2 : dPutT .dt (.dict (dk l)) (eF (fr w)) (eT eI w) = some (.dict (dk (l ++ [w]))) := by
    unfold dPutT putD
    simp only [ok, hk, and_self, if_true, hh]
    unfold dk
    simp
  have n1 : neD (eSt (0, w)) (eSt (0, w)) = some (.bool false) := by
    rw [neD_typed (eqTu (eqC eqI (eq1 (eqT eqI)))) (by decide)]; simp
  unfold l3_law
  have n2 : neD (eA (eSt (0, w))) ((eTu (fC eI (f1 (eT eI)))) (0, w)) = some (.bool false) := n1
  have d1' : dInT .dt (.dict (dk l)) ((eTu (fC eI (f1 eI))) (fr w)) = some false := d1
  have d2' : dPutT .dt (.dict (dk l)) ((eTu (fC eI (f1 eI))) (fr w)) ((eT eI) w) = some (.dict (dk (l ++ [w]))) := d2
  simp only [h1, Option.bind_some, d1', h5, n2, bOf, h4, decide_true, Bool.not_true, Bool.false_eq_true, if_false, d2']
theorem dis_app : ∀ {a : List (Int × Int)} {x : Int × Int} {b : List (Int × Int)}, dis (a ++ x :: b) = true → ∀ y ∈ a, y ≠ x
  | [], _, _, _, _, h => nomatch h
  | z :: a, x, b, h, y, hy => by
    rw [List.cons_append, dis, Bool.and_eq_true] at h
    rcases List.mem_cons.mp hy with rfl | hy
    · have := List.all_eq_true.mp h.1 x (by simp)
      intro e
      subst e
      simp at this
    · exact dis_app h.2 y hy
theorem run : ∀ {b a : List Wd}, (a ++ b).all chkW = true → dis ((a ++ b).map fr) = true → (a ++ b).length ≤ 1000 → forC l3_law b (.dict (dk a)) = some (.nx (.dict (dk (a ++ b))))
  | [], a, _, _, _ => by rw [List.append_nil]; rfl
  | w :: b, a, hc, hd, hl => by
    have e : a ++ w :: b = (a ++ [w]) ++ b := by simp
    have h1 := step (l := a) (w := w) (List.all_eq_true.mp hc w (by simp)) (fun v hv => by
      rw [List.map_append, List.map_cons] at hd
      exact dis_app hd (fr v) (List.mem_map.mpr ⟨v, hv, rfl⟩)) (by simp at hl; omega)
    have h2 := run (a := a ++ [w]) (b := b) (by rw [← e]; exact hc) (by rw [← e]; exact hd) (by rw [← e]; exact hl)
    rw [e]
    unfold forC
    rw [h1]
    exact h2
theorem words_ok {k : Nat} (h : k = 1 ∨ k = 2 ∨ k = 3 ∨ k = 4 ∨ k = 5) : ∃ ws, words k = some ws ∧ ws.length = 2 ^ k ∧ forC l3_law ws (.dict []) = some (.nx (.dict (dk ws))) := by
  rcases h with rfl | rfl | rfl | rfl | rfl
  · exact ⟨ws1, we1, by decide, run (a := []) wc1 wd1 (by decide)⟩
  · exact ⟨ws2, we2, by decide, run (a := []) wc2 wd2 (by decide)⟩
  · exact ⟨ws3, we3, by decide, run (a := []) wc3 wd3 (by decide)⟩
  · exact ⟨ws4, we4, by decide, run (a := []) wc4 wd4 (by decide)⟩
  · exact ⟨ws5, we5, by decide, run (a := []) wc5 wd5 (by decide)⟩
end K48

namespace K48
open PySem PySem.Spec PyProof.Rows L2 DL
theorem yes : DL.Yes 63 m_law := by
  intro ns hn
  obtain ⟨s', h1, _⟩ := forC_keep (f := fun st (k : Nat) => l0_law st (k : Int)) (fun _ => True) (xs := List.range 12) (s := srcS ns) trivial fun x hx s _ => by
    obtain ⟨s', h⟩ := l0_ok s (y := x) (by simpa using hx)
    exact ⟨s', .inl h, trivial⟩
  have e : t_law ns = some true := by
    have r12 : rng1T 12 = some ((List.range 12).map fun k : Nat => (k : Int)) := rng1_ok (n := 12) (by omega)
    have s1 : sourceT ns = some (srcS ns) := if_pos hn
    obtain ⟨r, s2, e1, r0, r5⟩ := pickT_ex s' 5 (by decide)
    obtain ⟨k, hk, hk5⟩ : ∃ k : Nat, 1 + r = (k : Int) ∧ (k = 1 ∨ k = 2 ∨ k = 3 ∨ k = 4 ∨ k = 5) := ⟨(1 + r).toNat, by omega, by omega⟩
    obtain ⟨ws, e2, e3, e4⟩ := words_ok hk5
    have e5 : Option.bind (rng1T (k : Int)) (fun x_ => forP l2_law x_ [([] : List Int)]) = some ws := e2
    have e6 : shlT 1 (k : Int) = some (2 ^ k : Int) := by rcases hk5 with rfl | rfl | rfl | rfl | rfl <;> decide +kernel
    have a1 : t_state_of_fraction (2, 3) = some (0, [1, 1, 2]) := by decide +kernel
    have a2 : t_law_told (2, 4) = some .none := told_no (by decide +kernel)
    have a3 : t_law_told (0, 0) = some .none := told_no (by decide +kernel)
    have e7 : (ws.length : Int) = 2 ^ k := by rw [e3]; simp
    have i1 : DL.isNon .none = true := rfl
    unfold t_law
    simp -implicitDefEqProofs only [s1, r12, Option.bind_some, forC_mapL, h1, ctlK_nx, thn2_ap, lif_ap, e1, drw_some, hk, e5, e6, e7, decide_true, Bool.not_true, Bool.false_eq_true, if_false, e4, a1, a2, a3, eA, id, i1, if_true]
  obtain ⟨_, outs, h⟩ := k_law (ns, ()) true e
  have h : m_law [.list (ns.map PyData.int)] = some (.bool true, outs) := h
  rw [h]; rfl
end K48

open PySem PySem.W PyProof.Rows
set_option maxHeartbeats 0 in
theorem PySem.Challenge.cw_lacednets_k48_whole_states_of_fractions_holds : PySem.Challenge.rw_lacednets_k48_whole_states_of_fractions.Holds := by
  w_on; o_law; k_head; (case hw => w_witness2)
  k_fill
  refine DL.walkG (l := PySem.Challenge.rw_lacednets_k48_whole_states_of_fractions) (n := 63) (k := 4) (mf := K48.m_law) rfl (by decide) rfl ⟨rfl, by decide, by decide⟩ (fun w h Y => PySem.W.kIn_of Y) ?F K48.yes
  case F =>
    intro w mg h KX G base _ _
    refine' K48.all_mk KX G ?a0 ?l0 ?c0 ?k0 ?a1 ?l1 ?c1 ?k1 ?a2 ?l2 ?c2 ?k2 ?a3 ?l3 ?c3 ?k3 ?a4 ?l4 ?c4 ?k4 ?a5 ?l5 ?c5 ?k5 ?a6 ?l6 ?c6 ?k6 ?a7 ?l7 ?c7 ?k7 ?a8 ?l8 ?c8 ?k8 ?a9 ?l9 ?c9 ?k9 ?a10 ?l10 ?c10 ?k10 ?a11 ?l11 ?c11 ?k11 ?w_abs ?w_int ?w_len ?w_max ?w_range ?w_repr ?w_tuple ?e1_NotOfIt ?e2_NotOfIt ?e3_NotOfIt ?e4_NotOfIt ?e5_NotOfIt ?e6_NotOfIt ?e7_NotOfIt
    (case a0 => k_is); (case l0 => k_is); (case c0 => k_is); (case k0 => k_is); (case a1 => k_is); (case l1 => k_is); (case c1 => k_is); (case k1 => k_is)
    (case a2 => k_is); (case l2 => k_is); (case c2 => k_is); (case k2 => k_is); (case a3 => k_is); (case l3 => k_is); (case c3 => k_is); (case k3 => k_is)
    (case a4 => k_is); (case l4 => k_is); (case c4 => k_is); (case k4 => k_is); (case a5 => k_is); (case l5 => k_is); (case c5 => k_is); (case k5 => k_is)
    (case a6 => k_is); (case l6 => k_is); (case c6 => k_is); (case k6 => k_is); (case a7 => k_is); (case l7 => k_is); (case c7 => k_is); (case k7 => k_is)
    (case a8 => k_is); (case l8 => k_is); (case c8 => k_is); (case k8 => k_is); (case a9 => k_is); (case l9 => k_is); (case c9 => k_is); (case k9 => k_is)
    (case a10 => k_is); (case l10 => k_is); (case c10 => k_is); (case k10 => k_is); (case a11 => k_is); (case l11 => k_is); (case c11 => k_is); (case k11 => k_is)
    (case w_abs => k_is); (case w_int => k_is); (case w_len => k_is); (case w_max => k_is); (case w_range => k_is); (case w_repr => k_is); (case w_tuple => k_is); (case e1_NotOfIt => k_is)
    (case e2_NotOfIt => k_exc); (case e3_NotOfIt => k_is); (case e4_NotOfIt => k_is); (case e5_NotOfIt => k_is); (case e6_NotOfIt => k_is); (case e7_NotOfIt => k_is)
