import PyProof.Rows.All
import HandS.ForMost
import HandS.Walk
import HandS.Zip
import HandS.SortInts
import HandS.Deep
import KE.SortData
import HandS.ForExc
import KE.KTupSum
import HandS.IsInst
import HandS.TupAny
import HandS.Style
import HandS.Wide
import HandS.RaiseMore
import HandS.TupLen
import PyProof.Rows.InDataRows
import KE.GoesZip
import KE.GoesEnumKw
import KE.GoesMore
import KE.KStar
import HandS.Conv
import HandS.More
import KE.KIntText
import HandS.TryOnly
import HandS.ExcOwn
import HandS.WordsExc
import HandS.TupMul
import KE.KDictDisplayH
import KE.OsSort
import KE.KSortAsk
import KE.KDictSum
import KE.KDictCopyH
import KE.KDictPairs
import PySem.Challenge.RW_lacednets_k16_power_sums
set_option Elab.async false
set_option linter.all false
set_option maxRecDepth 100000
set_option maxHeartbeats 4000000
/-! DLA: data beside the heap. A value of the abstract heap that holds a datum (Rep), slots that own what they hold (OwnAt), the state of a def's names as data (EI), and what an expression, a test, a statement does to it (tD, tT, tS). -/
namespace DL
open PySem PySem.Spec PyProof.Rows L2

abbrev Ev := List (Option PyData)

def kD : L2.Key → PyData
  | .inl i => .int i
  | .inr x => .str x
def tpD (k : List L2.Key) : PyData := .tuple (k.map kD)

/-- a list that the top has written -/
def KLst (K : PySem.W.Frag) (a : Addr) (xs : List V) : Prop := ∃ (ob : Obj) (its : Array Value) (n : Nat), K.lookup a = some ob ∧ ob.cls = .type "list" ∧ ob.dict = none ∧ ob.data = .seq its n ∧ its.size ≤ sizeLine ∧ Vals xs its.toList
def LstAt (K : PySem.W.Frag) (H : Hp) (O : Addr → Prop) (a : Addr) (xs : List V) : Prop := (Rd H a (.lst xs) ∧ ¬ O a) ∨ KLst K a xs
theorem LstAt.sq {K : PySem.W.Frag} {H : Hp} {O : Addr → Prop} {a : Addr} {xs : List V} (h : LstAt K H O a xs) : SqL K H a xs := h.imp (·.1) id
theorem LstAt.rd {K : PySem.W.Frag} {H : Hp} {O : Addr → Prop} {a : Addr} {xs : List V} (h : Rd H a (.lst xs)) (n : ¬ O a) : LstAt K H O a xs := .inl ⟨h, n⟩

/-- a dict's keys and values -/
def DctAt (H : Hp) (a : Addr) (ks : List PyData) (xs : List V) : Prop :=
  (∃ l : List (L2.Key × V), Rd H a (.dK l) ∧ ks = l.map (fun p => kD p.1) ∧ xs = l.map (·.2)) ∨
  (∃ l : List (List L2.Key × V), Rd H a (.dT l) ∧ ks = l.map (fun p => tpD p.1) ∧ xs = l.map (·.2))

/-- pairs that the top has written -/
def ktC : List PyData → Bool
  | [.int a, .int b] => (decide (a = -2) || decide (a = 2)) && decide (b = -1)
  | _ => false
/-- data of tuples that may be known to the object: no keys of a dict -/
def ktI : PyData → Bool
  | .int _ => true
  | .str _ => true
  | _ => false
def kt : PyData → Bool
  | .tuple ds => ds.isEmpty || !ds.all ktI || ktC ds
  | _ => false
def TpAt (K : PySem.W.Frag) (H : Hp) (a : Addr) (ds : List PyData) (xs : List V) : Prop := H a = some (.tup xs) ∨ (SqT K H a xs ∧ kt (.tuple ds) = true)
theorem TpAt.sq {K : PySem.W.Frag} {H : Hp} {a : Addr} {ds : List PyData} {xs : List V} (h : TpAt K H a ds xs) : SqT K H a xs := h.elim (fun h => .inl (.inl h)) (·.1)
theorem TpAt.of {K : PySem.W.Frag} {H : Hp} {a : Addr} {ds : List PyData} {xs : List V} (h : H a = some (.tup xs)) : TpAt K H a ds xs := .inl h
mutual
def Rep (K : PySem.W.Frag) (H : Hp) (O : Addr → Prop) : PyData → V → Prop
  | .none, v => v = .non
  | .bool b, v => v = .bl b
  | .int i, v => v = .int i
  | .str x, v => v = .str x
  | .list ds, v => ∃ a xs, v = .ref a ∧ LstAt K H O a xs ∧ RepA K H O ds xs
  | .tuple ds, v => ∃ a xs, v = .ref a ∧ TpAt K H a ds xs ∧ RepA K H O ds xs
  | .dict kvs, v => ∃ a xs, v = .ref a ∧ ¬ O a ∧ DctAt H a (kvs.map (·.1)) xs ∧ RepV K H O kvs xs
def RepA (K : PySem.W.Frag) (H : Hp) (O : Addr → Prop) : List PyData → List V → Prop
  | [], xs => xs = []
  | d :: ds, xs => ∃ x r, xs = x :: r ∧ Rep K H O d x ∧ RepA K H O ds r
def RepV (K : PySem.W.Frag) (H : Hp) (O : Addr → Prop) : List (PyData × PyData) → List V → Prop
  | [], xs => xs = []
  | (_, d) :: ds, xs => ∃ x r, xs = x :: r ∧ Rep K H O d x ∧ RepV K H O ds r
end

section
variable {K : PySem.W.Frag} {H H' : Hp} {O O' : Addr → Prop}
theorem RepV_iff : ∀ {kvs : List (PyData × PyData)} {xs : List V}, RepV K H O kvs xs ↔ RepA K H O (kvs.map (·.2)) xs
  | [], xs => by simp only [RepV, List.map_nil, RepA]
  | (k, d) :: r, xs => by
    simp only [RepV, List.map_cons, RepA]
    constructor
    · rintro ⟨x, t, e, h1, h2⟩; exact ⟨x, t, e, h1, RepV_iff.mp h2⟩
    · rintro ⟨x, t, e, h1, h2⟩; exact ⟨x, t, e, h1, RepV_iff.mpr h2⟩
theorem RepA.length : ∀ {ds : List PyData} {xs : List V}, RepA K H O ds xs → ds.length = xs.length
  | [], xs, h => by simp only [RepA] at h; subst h; rfl
  | d :: ds, xs, h => by
    simp only [RepA] at h
    obtain ⟨x, r, rfl, _, h2⟩ := h
    simp only [List.length_cons, h2.length]
theorem RepA.get : ∀ {ds : List PyData} {xs : List V} {i : Nat} {d : PyData}, RepA K H O ds xs → ds[i]? = some d → ∃ x, xs[i]? = some x ∧ Rep K H O d x
  | [], _, _, _, _, e => by simp at e
  | d :: ds, xs, 0, d', h, e => by
    simp only [RepA] at h
    obtain ⟨x, r, rfl, h1, _⟩ := h
    simp at e; subst e
    exact ⟨x, rfl, h1⟩
  | d :: ds, xs, i + 1, d', h, e => by
    simp only [RepA] at h
    obtain ⟨x, r, rfl, _, h2⟩ := h
    obtain ⟨y, e1, e2⟩ := RepA.get (i := i) h2 (by simpa using e)
    exact ⟨y, by simpa using e1, e2⟩
theorem RepA.cons {d : PyData} {ds : List PyData} {x : V} {xs : List V} (h1 : Rep K H O d x) (h2 : RepA K H O ds xs) : RepA K H O (d :: ds) (x :: xs) := by
  simp only [RepA]; exact ⟨x, xs, rfl, h1, h2⟩
theorem RepA.nil : RepA K H O [] [] := by simp only [RepA]
theorem RepA.mk : ∀ {ds : List PyData} {xs : List V}, ds.length = xs.length → (∀ (i : Nat) d x, ds[i]? = some d → xs[i]? = some x → Rep K H O d x) → RepA K H O ds xs
  | [], [], _, _ => .nil
  | [], _ :: _, h, _ => by simp at h
  | _ :: _, [], h, _ => by simp at h
  | d :: ds, x :: xs, h, f => .cons (f 0 d x rfl rfl) (RepA.mk (by simpa using h) fun i d x e1 e2 => f (i + 1) d x (by simpa using e1) (by simpa using e2))
theorem RepA.append : ∀ {ds es : List PyData} {xs ys : List V}, RepA K H O ds xs → RepA K H O es ys → RepA K H O (ds ++ es) (xs ++ ys)
  | [], _, _, _, h1, h2 => by simp only [RepA] at h1; subst h1; exact h2
  | d :: ds, _, _, _, h1, h2 => by
    simp only [RepA] at h1
    obtain ⟨x, r, rfl, a, b⟩ := h1
    exact .cons a (b.append h2)
theorem RepA.pick {ds ds' : List PyData} {xs xs' : List V} (h : RepA K H O ds xs) (hl : ds'.length = xs'.length) (f : ∀ (i : Nat), i < ds'.length → ∃ j : Nat, ds'[i]? = ds[j]? ∧ xs'[i]? = xs[j]?) : RepA K H O ds' xs' := by
  refine .mk hl fun i d x e1 e2 => ?_
  have hi : i < ds'.length := (List.getElem?_eq_some_iff.mp e1).1
  obtain ⟨j, f1, f2⟩ := f i hi
  rw [e1] at f1; rw [e2] at f2
  obtain ⟨y, g1, g2⟩ := h.get f1.symm
  rw [g1] at f2; cases f2
  exact g2
theorem RepA.take {ds : List PyData} {xs : List V} (n : Nat) (h : RepA K H O ds xs) : RepA K H O (ds.take n) (xs.take n) := by
  have hl := h.length
  refine h.pick (by simp [hl]) fun i hi => ⟨i, ?_, ?_⟩
  · have : i < n := by simp at hi; omega
    simp [List.getElem?_take, this]
  · have : i < n := by simp at hi; omega
    simp [List.getElem?_take, this]
theorem RepA.drop {ds : List PyData} {xs : List V} (n : Nat) (h : RepA K H O ds xs) : RepA K H O (ds.drop n) (xs.drop n) := by
  have hl := h.length
  exact h.pick (by simp [hl]) fun i hi => ⟨n + i, by simp, by simp⟩
theorem RepA.reverse {ds : List PyData} {xs : List V} (h : RepA K H O ds xs) : RepA K H O ds.reverse xs.reverse := by
  have hl := h.length
  refine h.pick (by simp [hl]) fun i hi => ⟨ds.length - 1 - i, ?_, ?_⟩
  · rw [List.getElem?_reverse (by simpa using hi)]
  · rw [List.getElem?_reverse (by simp at hi; omega), hl]
theorem RepA.set {ds : List PyData} {xs : List V} {d : PyData} {x : V} (n : Nat) (h : RepA K H O ds xs) (r : Rep K H O d x) : RepA K H O (ds.set n d) (xs.set n x) := by
  have hl := h.length
  refine .mk (by simp [hl]) fun i d' x' e1 e2 => ?_
  rw [List.getElem?_set] at e1 e2
  by_cases hn : n = i
  · subst hn
    simp only [if_pos] at e1 e2
    split at e1 <;> split at e2 <;> first | (cases e1; cases e2; exact r) | (exfalso; omega) | simp at e1 | simp at e2
  · simp only [hn, if_false] at e1 e2
    obtain ⟨y, g1, g2⟩ := h.get e1
    rw [g1] at e2; cases e2
    exact g2
end

/-! ### what is owned -/
inductive Kd where
  /-- what is held is never changed -/
  | frz
  /-- a list of one's own (its items are not) -/
  | l1
  /-- a list of one's own of such -/
  | l2
  /-- a dict of one's own, its keys ints and texts; tuples of such -/
  | dk | dt
  /-- the law's source -/
  | src
  /-- a tuple whose object has no attributes -/
  | pt
  deriving DecidableEq

def OO (G : Addr → Prop) (F : List (List Addr)) (a : Addr) : Prop := G a ∨ a ∈ F.flatten

/-- the source's datum -/
def srcD (cells : List Int) (left mixed turn : Int) : PyData :=
  .dict [(.str "cells", .list (cells.map .int)), (.str "left", .int left), (.str "mixed", .int mixed), (.str "turn", .int turn)]

def OwnAt (K : PySem.W.Frag) (H : Hp) (O : Addr → Prop) : Kd → List Addr → PyData → V → Prop
  | .frz, F, d, v => F = [] ∧ Rep K H O d v
  | .l1, F, d, v => ∃ a xs ds, F = [a] ∧ d = .list ds ∧ v = .ref a ∧ H a = some (.lst xs) ∧ RepA K H O ds xs
  | .l2, F, d, v => ∃ a bs dss, F = a :: bs ∧ d = .list (List.map PyData.list dss) ∧ v = .ref a ∧ H a = some (.lst (bs.map V.ref)) ∧ bs.length = dss.length ∧
      ∀ (i : Nat) b ds, bs[i]? = some b → dss[i]? = some ds → ∃ xs, H b = some (.lst xs) ∧ RepA K H O ds xs
  | .dk, F, d, v => ∃ a kvs l, F = [a] ∧ d = .dict kvs ∧ v = .ref a ∧ H a = some (.dK l) ∧ kvs.map (·.1) = l.map (fun p => kD p.1) ∧ RepV K H O kvs (l.map (·.2))
  | .dt, F, d, v => ∃ a kvs l, F = [a] ∧ d = .dict kvs ∧ v = .ref a ∧ H a = some (.dT l) ∧ kvs.map (·.1) = l.map (fun p => tpD p.1) ∧ RepV K H O kvs (l.map (·.2))
  | .src, F, d, v => ∃ a c cells left mixed turn, F = [a, c] ∧ d = srcD cells left mixed turn ∧ v = .ref a ∧
      H a = some (.dK [(Sum.inr "cells", .ref c), (Sum.inr "left", .int left), (Sum.inr "mixed", .int mixed), (Sum.inr "turn", .int turn)]) ∧ H c = some (.lst (cells.map V.int))
  | .pt, F, d, v => ∃ a xs ds o, F = [] ∧ d = .tuple ds ∧ v = .ref a ∧ H a = some (.frz o (.tup xs)) ∧ o.dict = none ∧ kt (.tuple ds) = true ∧ RepA K H O ds xs

/-- no address in two of them, nor twice in one -/
structure Dis (F : List (List Addr)) : Prop where
  own : ∀ (i : Nat) Fi, F[i]? = some Fi → Fi.Nodup
  apart : ∀ (i j : Nat) Fi Fj a, F[i]? = some Fi → F[j]? = some Fj → a ∈ Fi → a ∈ Fj → i = j
theorem mem_flat {F : List (List Addr)} {a : Addr} : a ∈ F.flatten ↔ ∃ (i : Nat) (Fi : List Addr), F[i]? = some Fi ∧ a ∈ Fi := by
  rw [List.mem_flatten]
  constructor
  · rintro ⟨l, h1, h2⟩
    obtain ⟨i, hi⟩ := List.mem_iff_getElem?.mp h1
    exact ⟨i, l, hi, h2⟩
  · rintro ⟨i, l, h1, h2⟩
    exact ⟨l, List.mem_of_getElem? h1, h2⟩
theorem Dis.set {F : List (List Addr)} {i : Nat} {Fi : List Addr} (D : Dis F) (hn : Fi.Nodup) (h : ∀ a ∈ Fi, ∀ (j : Nat) Fj, j ≠ i → F[j]? = some Fj → a ∉ Fj) : Dis (F.set i Fi) where
  own := fun j Fj e => by
    rw [List.getElem?_set] at e
    by_cases hj : i = j
    · subst hj
      simp only [if_pos] at e
      split at e
      · cases e; exact hn
      · cases e
    · rw [if_neg hj] at e
      exact D.own j Fj e
  apart := fun j l Fj Fl a e1 e2 m1 m2 => by
    rw [List.getElem?_set] at e1 e2
    by_cases hj : i = j
    · by_cases hl : i = l
      · exact hj.symm.trans hl
      · rw [if_neg hl] at e2
        subst hj
        simp only [if_pos] at e1
        split at e1
        · cases e1; exact absurd m2 (h a m1 l Fl (Ne.symm hl) e2)
        · cases e1
    · by_cases hl : i = l
      · rw [if_neg hj] at e1
        subst hl
        simp only [if_pos] at e2
        split at e2
        · cases e2; exact absurd m1 (h a m2 j Fj (Ne.symm hj) e1)
        · cases e2
      · rw [if_neg hj] at e1
        rw [if_neg hl] at e2
        exact D.apart j l Fj Fl a e1 e2 m1 m2
theorem mem_set {F : List (List Addr)} {i : Nat} {Fi : List Addr} {a : Addr} (h : a ∈ (F.set i Fi).flatten) : a ∈ Fi ∨ ∃ (j : Nat) (Fj : List Addr), j ≠ i ∧ F[j]? = some Fj ∧ a ∈ Fj := by
  obtain ⟨j, Fj, e, m⟩ := mem_flat.mp h
  rw [List.getElem?_set] at e
  by_cases hj : i = j
  · subst hj
    simp only [if_pos] at e
    split at e
    · cases e; exact .inl m
    · cases e
  · rw [if_neg hj] at e
    exact .inr ⟨j, Fj, Ne.symm hj, e, m⟩
structure EI (K : PySem.W.Frag) (ks : List Kd) (ps : List (Nat × V)) (G : Addr → Prop) (F : List (List Addr)) (σ : L2.St) (H : Hp) (env : Ev) : Prop where
  lF : F.length = ks.length
  lE : env.length = ks.length
  lS : σ.length = ks.length
  nd : Dis F
  tr : ∀ a ∈ F.flatten, H a ≠ none ∧ ¬ G a
  gt : ∀ a, G a → H a ≠ none
  sl : ∀ (i : Nat) d kd, env[i]? = some (some d) → ks[i]? = some kd → ∃ v Fi, σ[i]? = some (some v) ∧ F[i]? = some Fi ∧ OwnAt K H (OO G F) kd Fi d v
  pn : ∀ p ∈ ps, σ[p.1]? = some (some p.2)
  fz : ∀ (i : Nat), ks[i]? = some Kd.frz → F[i]? = some []

structure Stp (F : List (List Addr)) (H : Hp) (F' : List (List Addr)) (H' : Hp) : Prop where
  keep : ∀ a o, H a = some o → a ∉ F.flatten → H' a = some o
  dom : ∀ a, H a ≠ none → H' a ≠ none
  tup : ∀ a xs, H a = some (.tup xs) → H' a = some (.tup xs)
  frz : ∀ a o u, H a = some (.frz o u) → H' a = some (.frz o u)
  new : ∀ a ∈ F'.flatten, a ∈ F.flatten ∨ H a = none

theorem Stp.refl {F : List (List Addr)} {H : Hp} : Stp F H F H := ⟨fun _ _ e _ => e, fun _ e => e, fun _ _ e => e, fun _ _ _ e => e, fun _ h => .inl h⟩
theorem Stp.trans {F F1 F2 : List (List Addr)} {H H1 H2 : Hp} (a : Stp F H F1 H1) (b : Stp F1 H1 F2 H2) : Stp F H F2 H2 where
  keep := fun p o e n => b.keep p o (a.keep p o e n) fun m => by
    rcases a.new p m with q | q
    · exact n q
    · rw [q] at e; cases e
  dom := fun p e => b.dom p (a.dom p e)
  tup := fun p xs e => b.tup p xs (a.tup p xs e)
  frz := fun p o u e => b.frz p o u (a.frz p o u e)
  new := fun p m => by
    rcases b.new p m with q | q
    · exact a.new p q
    · refine .inr ?_
      cases e : H p with
      | none => rfl
      | some o => exact absurd q (a.dom p (by rw [e]; simp))
theorem Stp.same {F : List (List Addr)} {H H' : Hp} (s : Same H H') : Stp F H F H' :=
  ⟨fun a o e _ => s a o e, fun a e => by
    cases q : H a with
    | none => exact absurd q e
    | some o => rw [s a o q]; simp, fun a xs e => s a _ e, fun a o u e => s a _ e, fun _ h => .inl h⟩

/-- what a datum of a value leans on stays -/
structure Kp (O : Addr → Prop) (H : Hp) (O' : Addr → Prop) (H' : Hp) : Prop where
  keep : ∀ a o, H a = some o → ¬ O a → H' a = some o ∧ ¬ O' a
  tup : ∀ a xs, H a = some (.tup xs) → H' a = some (.tup xs)
  frz : ∀ a o u, H a = some (.frz o u) → H' a = some (.frz o u)
theorem Kp.refl {O : Addr → Prop} {H : Hp} : Kp O H O H := ⟨fun _ _ e n => ⟨e, n⟩, fun _ _ e => e, fun _ _ _ e => e⟩
theorem Kp.less {O O' : Addr → Prop} {H : Hp} (h : ∀ a, O' a → O a) : Kp O H O' H := ⟨fun _ _ e n => ⟨e, fun z => n (h _ z)⟩, fun _ _ e => e, fun _ _ _ e => e⟩
theorem Kp.trans {O O1 O2 : Addr → Prop} {H H1 H2 : Hp} (a : Kp O H O1 H1) (b : Kp O1 H1 O2 H2) : Kp O H O2 H2 :=
  ⟨fun p o e n => let ⟨q, m⟩ := a.keep p o e n; b.keep p o q m, fun p xs e => b.tup p xs (a.tup p xs e), fun p o u e => b.frz p o u (a.frz p o u e)⟩
theorem Stp.kp {G : Addr → Prop} {F F' : List (List Addr)} {H H' : Hp} (s : Stp F H F' H') : Kp (OO G F) H (OO G F') H' where
  keep := fun a o e n => ⟨s.keep a o e fun m => n (.inr m), fun z => by
    rcases z with z | z
    · exact n (.inl z)
    · rcases s.new a z with q | q
      · exact n (.inr q)
      · rw [q] at e; cases e⟩
  tup := s.tup
  frz := s.frz
theorem Same.kp {O : Addr → Prop} {H H' : Hp} (s : Same H H') : Kp O H O H' := ⟨fun a o e n => ⟨s a o e, n⟩, fun a _ e => s a _ e, fun a _ _ e => s a _ e⟩

section
variable {K : PySem.W.Frag} {H H' : Hp} {O O' : Addr → Prop}
theorem SqT.kp (k : Kp O H O' H') {a : Addr} {xs : List V} (h : SqT K H a xs) : SqT K H' a xs := by
  rcases h with (h | ⟨o, h⟩) | h
  · exact .inl (.inl (k.tup _ _ h))
  · exact .inl (.inr ⟨o, k.frz _ _ _ h⟩)
  · exact .inr h
theorem LstAt.kp (k : Kp O H O' H') {a : Addr} {xs : List V} (h : LstAt K H O a xs) : LstAt K H' O' a xs := by
  rcases h with ⟨h | ⟨o, h⟩, n⟩ | h
  · obtain ⟨e, m⟩ := k.keep _ _ h n
    exact .rd (.inl e) m
  · obtain ⟨e, m⟩ := k.keep _ _ h n
    exact .rd (.inr ⟨o, e⟩) m
  · exact .inr h
theorem DctAt.kp (k : Kp O H O' H') {a : Addr} {ds : List PyData} {xs : List V} (n : ¬ O a) (h : DctAt H a ds xs) : ¬ O' a ∧ DctAt H' a ds xs := by
  rcases h with ⟨l, h | ⟨o, h⟩, e⟩ | ⟨l, h | ⟨o, h⟩, e⟩
  · obtain ⟨e1, m⟩ := k.keep _ _ h n
    exact ⟨m, .inl ⟨l, .inl e1, e⟩⟩
  · obtain ⟨e1, m⟩ := k.keep _ _ h n
    exact ⟨m, .inl ⟨l, .inr ⟨o, e1⟩, e⟩⟩
  · obtain ⟨e1, m⟩ := k.keep _ _ h n
    exact ⟨m, .inr ⟨l, .inl e1, e⟩⟩
  · obtain ⟨e1, m⟩ := k.keep _ _ h n
    exact ⟨m, .inr ⟨l, .inr ⟨o, e1⟩, e⟩⟩
mutual
theorem Rep.kp (k : Kp O H O' H') : ∀ {d : PyData} {v : V}, Rep K H O d v → Rep K H' O' d v
  | .none, v, h => by simp only [Rep] at h ⊢; exact h
  | .bool b, v, h => by simp only [Rep] at h ⊢; exact h
  | .int i, v, h => by simp only [Rep] at h ⊢; exact h
  | .str x, v, h => by simp only [Rep] at h ⊢; exact h
  | .list ds, v, h => by
    simp only [Rep] at h ⊢
    obtain ⟨a, xs, e, h1, h2⟩ := h
    exact ⟨a, xs, e, h1.kp k, RepA.kp k h2⟩
  | .tuple ds, v, h => by
    simp only [Rep] at h ⊢
    obtain ⟨a, xs, e, h1, h2⟩ := h
    exact ⟨a, xs, e, h1.elim (fun h => .inl (k.tup _ _ h)) fun h => .inr ⟨SqT.kp k h.1, h.2⟩, RepA.kp k h2⟩
  | .dict kvs, v, h => by
    simp only [Rep] at h ⊢
    obtain ⟨a, xs, e, n, h1, h2⟩ := h
    obtain ⟨m, h1⟩ := h1.kp k n
    exact ⟨a, xs, e, m, h1, RepV.kp k h2⟩
theorem RepA.kp (k : Kp O H O' H') : ∀ {ds : List PyData} {xs : List V}, RepA K H O ds xs → RepA K H' O' ds xs
  | [], xs, h => by simp only [RepA] at h ⊢; exact h
  | d :: ds, xs, h => by
    simp only [RepA] at h ⊢
    obtain ⟨x, r, e, h1, h2⟩ := h
    exact ⟨x, r, e, Rep.kp k h1, RepA.kp k h2⟩
theorem RepV.kp (k : Kp O H O' H') : ∀ {ds : List (PyData × PyData)} {xs : List V}, RepV K H O ds xs → RepV K H' O' ds xs
  | [], xs, h => by simp only [RepV] at h ⊢; exact h
  | (_, d) :: ds, xs, h => by
    simp only [RepV] at h ⊢
    obtain ⟨x, r, e, h1, h2⟩ := h
    exact ⟨x, r, e, Rep.kp k h1, RepV.kp k h2⟩
end
theorem OwnAt.kp (k : Kp O H O' H') {kd : Kd} {F : List Addr} {d : PyData} {v : V} (hF : ∀ a ∈ F, ∀ o, H a = some o → H' a = some o) (h : OwnAt K H O kd F d v) : OwnAt K H' O' kd F d v := by
  cases kd with
  | frz => exact ⟨h.1, h.2.kp k⟩
  | l1 =>
    obtain ⟨a, xs, ds, rfl, e1, e2, e3, r⟩ := h
    exact ⟨a, xs, ds, rfl, e1, e2, hF a (by simp) _ e3, r.kp k⟩
  | l2 =>
    obtain ⟨a, bs, dss, rfl, e1, e2, e3, el, r⟩ := h
    refine ⟨a, bs, dss, rfl, e1, e2, hF a (by simp) _ e3, el, fun i b ds g1 g2 => ?_⟩
    obtain ⟨xs, q1, q2⟩ := r i b ds g1 g2
    exact ⟨xs, hF b (List.mem_cons_of_mem _ (List.mem_of_getElem? g1)) _ q1, q2.kp k⟩
  | dk =>
    obtain ⟨a, kvs, l, rfl, e1, e2, e3, e4, r⟩ := h
    exact ⟨a, kvs, l, rfl, e1, e2, hF a (by simp) _ e3, e4, RepV.kp k r⟩
  | dt =>
    obtain ⟨a, kvs, l, rfl, e1, e2, e3, e4, r⟩ := h
    exact ⟨a, kvs, l, rfl, e1, e2, hF a (by simp) _ e3, e4, RepV.kp k r⟩
  | src =>
    obtain ⟨a, c, cells, left, mixed, turn, rfl, e1, e2, e3, e4⟩ := h
    exact ⟨a, c, cells, left, mixed, turn, rfl, e1, e2, hF a (by simp) _ e3, hF c (by simp) _ e4⟩
  | pt =>
    obtain ⟨a, xs, ds, o, e0, e1, e2, e3, e4, e5, r⟩ := h
    exact ⟨a, xs, ds, o, e0, e1, e2, k.frz _ _ _ e3, e4, e5, r.kp k⟩
end

section
variable {K : PySem.W.Frag} {ks : List Kd} {ps : List (Nat × V)} {G : Addr → Prop} {F F' : List (List Addr)} {σ : L2.St} {H H' : Hp} {env : Ev}
theorem EI.same (I : EI K ks ps G F σ H env) (s : Same H H') : EI K ks ps G F σ H' env where
  lF := I.lF
  lE := I.lE
  lS := I.lS
  nd := I.nd
  tr := fun a h => ⟨(Stp.same (F := F) s).dom a (I.tr a h).1, (I.tr a h).2⟩
  gt := fun a h => (Stp.same (F := F) s).dom a (I.gt a h)
  sl := fun i d kd h1 h2 => by
    obtain ⟨v, Fi, e1, e2, o⟩ := I.sl i d kd h1 h2
    exact ⟨v, Fi, e1, e2, o.kp (Same.kp s) fun a _ ob e => s a ob e⟩
  pn := I.pn
  fz := I.fz
/-- a slot of the env that is not owned -/
theorem EI.at_frz (I : EI K ks ps G F σ H env) {i : Nat} {d : PyData} (h1 : env[i]? = some (some d)) (h2 : ks[i]? = some .frz) : ∃ v, σ[i]? = some (some v) ∧ Rep K H (OO G F) d v := by
  obtain ⟨v, Fi, e1, e2, o⟩ := I.sl i d _ h1 h2
  exact ⟨v, e1, o.2⟩
end

/-! ### readings over data -/
def tD (K : PySem.W.Frag) (ks : List Kd) (ps : List (Nat × V)) (m : Ev → Option (PyData × Ev)) : TE := fun σ H Q => ∃ G F env d env', EI K ks ps G F σ H env ∧ m env = some (d, env') ∧
  ∀ v F' H', Stp F H F' H' → EI K ks ps G F' σ H' env' → Rep K H' (OO G F') d v → Q v H'
def tT (K : PySem.W.Frag) (ks : List Kd) (ps : List (Nat × V)) (m : Ev → Option (Bool × Ev)) : TT := fun σ H Q => ∃ G F env b env', EI K ks ps G F σ H env ∧ m env = some (b, env') ∧
  ∀ F' H', Stp F H F' H' → EI K ks ps G F' σ H' env' → Q b H'
inductive Out where
  | nx (env : Ev) | rt (d : PyData) (env : Ev) | bk (env : Ev) | ct (env : Ev)
def tS (K : PySem.W.Frag) (ks : List Kd) (ps : List (Nat × V)) (rk : Kd) (m : Ev → Option Out) : TS := fun D σ H => ∃ G F env o, EI K ks ps G F σ H env ∧ m env = some o ∧
  match o with
  | .nx e => ∀ σ' F' H', Stp F H F' H' → EI K ks ps G F' σ' H' e → D.nx σ' H'
  | .rt d e => ∀ v σ' F' H' Fr, Stp F H F' H' → EI K ks ps (fun a => G a ∨ a ∈ Fr) F' σ' H' e → OwnAt K H' (OO (fun a => G a ∨ a ∈ Fr) F') rk Fr d v → Fr.Nodup → (∀ a ∈ Fr, ¬ G a ∧ (a ∈ F.flatten ∨ H a = none)) → D.rt v H'
  | .bk e => ∀ σ' F' H', Stp F H F' H' → EI K ks ps G F' σ' H' e → D.bk σ' H'
  | .ct e => ∀ σ' F' H', Stp F H F' H' → EI K ks ps G F' σ' H' e → D.ct σ' H'
theorem Stp.back {F F' : List (List Addr)} {H H' : Hp} (S : Stp F H F' H') {p : Addr} (hp : H' p = none) : H p = none := by
  cases z : H p with
  | none => rfl
  | some o => exact absurd hp (S.dom p (by rw [z]; simp))

theorem Stp.nw {F F' : List (List Addr)} {H H' : Hp} (S : Stp F H F' H') {p : Addr} (h : p ∈ F'.flatten ∨ H' p = none) : p ∈ F.flatten ∨ H p = none := h.elim (S.new p) fun z => .inr (S.back z)

abbrev ED (X : Cx) (ks : List Kd) (ps : List (Nat × V)) (e : Expr) (m : Ev → Option (PyData × Ev)) : Prop := PE X e (tD X.K ks ps m)
abbrev TD (X : Cx) (ks : List Kd) (ps : List (Nat × V)) (e : Expr) (m : Ev → Option (Bool × Ev)) : Prop := PT X e (tT X.K ks ps m)
abbrev WD (X : Cx) (ks : List Kd) (ps : List (Nat × V)) (e : Expr) (m : Ev → Option (Bool × Ev)) : Prop := PW X e (tT X.K ks ps m)
abbrev SD (X : Cx) (ks : List Kd) (ps : List (Nat × V)) (rk : Kd) (st : Stmt) (m : Ev → Option Out) : Prop := PS X st (tS X.K ks ps rk m)
abbrev SsD (X : Cx) (ks : List Kd) (ps : List (Nat × V)) (rk : Kd) (st : List Stmt) (m : Ev → Option Out) : Prop := PSs X st (tS X.K ks ps rk m)

theorem PE.imp {X : Cx} {e : Expr} {t t' : TE} (h : PE X e t) (w : ∀ σ H Q, t' σ H Q → t σ H Q) : PE X e t' := ⟨fun pins s σ H Q I q => h.run pins s σ H Q I (w σ H Q q)⟩
theorem PT.imp {X : Cx} {e : Expr} {t t' : TT} (h : PT X e t) (w : ∀ σ H Q, t' σ H Q → t σ H Q) : PT X e t' := ⟨fun pins s σ H Q I q => h.run pins s σ H Q I (w σ H Q q)⟩
theorem PW.imp {X : Cx} {e : Expr} {t t' : TT} (h : PW X e t) (w : ∀ σ H Q, t' σ H Q → t σ H Q) : PW X e t' := ⟨fun wh pins s σ H Q I q => h.run wh pins s σ H Q I (w σ H Q q)⟩
theorem PA.imp {X : Cx} {es : List Expr} {t t' : TA} (h : PA X es t) (w : ∀ σ H Q, t' σ H Q → t σ H Q) : PA X es t' := ⟨fun pos pins s σ H Q I q => h.run pos pins s σ H Q I (w σ H Q q)⟩
theorem PS.imp {X : Cx} {st : Stmt} {t t' : TS} (h : PS X st t) (w : ∀ D σ H, t' D σ H → t D σ H) : PS X st t' := ⟨fun pins s σ H D I q => h.run pins s σ H D I (w D σ H q)⟩
theorem PSs.imp {X : Cx} {st : List Stmt} {t t' : TS} (h : PSs X st t) (w : ∀ D σ H, t' D σ H → t D σ H) : PSs X st t' := ⟨fun pins s σ H D I q => h.run pins s σ H D I (w D σ H q)⟩

/-! ### the monad -/
abbrev M (α : Type) := Ev → Option (α × Ev)
def ret {α : Type} (a : α) : M α := fun e => some (a, e)
def bnd {α β : Type} (m : M α) (f : α → M β) : M β := fun e => match m e with
  | none => none
  | some (a, e') => f a e'
def lft {α : Type} (o : Option α) : M α := fun e => match o with
  | none => none
  | some a => some (a, e)
theorem bnd_some {α β : Type} {m : M α} {f : α → M β} {e e2 : Ev} {b : β} (h : bnd m f e = some (b, e2)) : ∃ a e1, m e = some (a, e1) ∧ f a e1 = some (b, e2) := by
  unfold bnd at h
  cases q : m e with
  | none => rw [q] at h; cases h
  | some p => obtain ⟨a, e1⟩ := p; rw [q] at h; exact ⟨a, e1, rfl, h⟩
theorem lft_some {α : Type} {o : Option α} {e e2 : Ev} {b : α} (h : lft o e = some (b, e2)) : o = some b ∧ e2 = e := by
  unfold lft at h
  cases o with
  | none => cases h
  | some a => cases h; exact ⟨rfl, rfl⟩
end DL

/-! DLB: expressions over data. -/
namespace DL
open PySem PySem.Spec PyProof.Rows L2

/-! ### operands: a datum, or a slot that owns what it holds -/
inductive Opd where
  | val (d : PyData) | slot (i : Nat)
def Opd.get : Opd → Ev → Option PyData
  | .val d, _ => some d
  | .slot i, e => match e[i]? with
    | some (some d) => some d
    | _ => none
def Opd.own : Opd → Bool
  | .val _ => false
  | .slot _ => true
def getAll : List Opd → Ev → Option (List PyData)
  | [], _ => some []
  | o :: r, e => match o.get e with
    | none => none
    | some d => match getAll r e with
      | none => none
      | some ds => some (d :: ds)

mutual
/-- nothing in it may change -/
def imm : PyData → Bool
  | .none | .bool _ | .int _ | .str _ => true
  | .tuple xs => immA xs
  | .list _ | .dict _ => false
def immA : List PyData → Bool
  | [] => true
  | x :: xs => imm x && immA xs
end
section
variable {K : PySem.W.Frag} {H : Hp} {O O' : Addr → Prop}
mutual
theorem Rep.imm : ∀ {d : PyData} {v : V}, DL.imm d = true → Rep K H O d v → Rep K H O' d v
  | .none, v, _, h => by simp only [Rep] at h ⊢; exact h
  | .bool b, v, _, h => by simp only [Rep] at h ⊢; exact h
  | .int i, v, _, h => by simp only [Rep] at h ⊢; exact h
  | .str x, v, _, h => by simp only [Rep] at h ⊢; exact h
  | .list ds, v, i, h => by simp only [DL.imm] at i; cases i
  | .tuple ds, v, i, h => by
    simp only [Rep] at h ⊢
    simp only [DL.imm] at i
    obtain ⟨a, xs, e, h1, h2⟩ := h
    exact ⟨a, xs, e, h1, RepA.imm i h2⟩
  | .dict kvs, v, i, h => by simp only [DL.imm] at i; cases i
theorem RepA.imm : ∀ {ds : List PyData} {xs : List V}, immA ds = true → RepA K H O ds xs → RepA K H O' ds xs
  | [], xs, _, h => by simp only [RepA] at h ⊢; exact h
  | d :: ds, xs, i, h => by
    simp only [RepA] at h ⊢
    simp only [immA, Bool.and_eq_true] at i
    obtain ⟨x, r, e, h1, h2⟩ := h
    exact ⟨x, r, e, Rep.imm i.1 h1, RepA.imm i.2 h2⟩
end
end

/-- the operand is v -/
def HoldsO (K : PySem.W.Frag) (ks : List Kd) (G : Addr → Prop) (F : List (List Addr)) (σ : L2.St) (H : Hp) : Opd → V → Prop
  | .val d, v => Rep K H (OO G F) d v
  | .slot i, v => σ[i]? = some (some v)
def HoldsA (K : PySem.W.Frag) (ks : List Kd) (G : Addr → Prop) (F : List (List Addr)) (σ : L2.St) (H : Hp) : List Opd → List V → Prop
  | [], xs => xs = []
  | o :: r, xs => ∃ x t, xs = x :: t ∧ HoldsO K ks G F σ H o x ∧ HoldsA K ks G F σ H r t
section
variable {K : PySem.W.Frag} {ks : List Kd} {ps : List (Nat × V)} {G : Addr → Prop} {F F' : List (List Addr)} {σ : L2.St} {H H' : Hp} {env : Ev}
theorem HoldsO.stp {o : Opd} {v : V} (s : Stp F H F' H') (h : HoldsO K ks G F σ H o v) : HoldsO K ks G F' σ H' o v := by
  cases o with
  | val d => exact Rep.kp s.kp h
  | slot i => exact h
theorem HoldsA.stp (s : Stp F H F' H') : ∀ {os : List Opd} {vs : List V}, HoldsA K ks G F σ H os vs → HoldsA K ks G F' σ H' os vs
  | [], _, h => h
  | o :: r, _, h => by
    obtain ⟨x, t, e, h1, h2⟩ := h
    exact ⟨x, t, e, h1.stp s, HoldsA.stp s h2⟩

/-- what is owned, read as data that keeps apart from P -/
theorem OwnAt.repP {O P : Addr → Prop} {kd : Kd} {Fi : List Addr} {d : PyData} {v : V} (hP : ∀ a, P a → O a) (hF : ∀ a ∈ Fi, ¬ P a) (h : OwnAt K H O kd Fi d v) : Rep K H P d v := by
  have k : Kp O H P H := .less hP
  cases kd with
  | frz => exact Rep.kp k h.2
  | l1 =>
    obtain ⟨a, xs, ds, rfl, rfl, rfl, e, r⟩ := h
    simp only [Rep]
    exact ⟨a, xs, rfl, LstAt.rd (.inl e) (hF a (by simp)), RepA.kp k r⟩
  | l2 =>
    obtain ⟨a, bs, dss, rfl, rfl, rfl, e, el, r⟩ := h
    simp only [Rep]
    refine ⟨a, _, rfl, LstAt.rd (.inl e) (hF a (by simp)), .mk (by simp [el]) fun i d x e1 e2 => ?_⟩
    rw [List.getElem?_map] at e1 e2
    cases g1 : bs[i]? with
    | none => rw [g1] at e2; cases e2
    | some b =>
      cases g2 : dss[i]? with
      | none => rw [g2] at e1; cases e1
      | some ds =>
        rw [g1] at e2; rw [g2] at e1; cases e1; cases e2
        obtain ⟨xs, q1, q2⟩ := r i b ds g1 g2
        simp only [Rep]
        exact ⟨b, xs, rfl, LstAt.rd (.inl q1) (hF b (List.mem_cons_of_mem _ (List.mem_of_getElem? g1))), RepA.kp k q2⟩
  | dk =>
    obtain ⟨a, kvs, l, rfl, rfl, rfl, e, e4, r⟩ := h
    simp only [Rep]
    exact ⟨a, _, rfl, hF a (by simp), .inl ⟨l, .inl e, e4, rfl⟩, RepV.kp k r⟩
  | dt =>
    obtain ⟨a, kvs, l, rfl, rfl, rfl, e, e4, r⟩ := h
    simp only [Rep]
    exact ⟨a, _, rfl, hF a (by simp), .inr ⟨l, .inl e, e4, rfl⟩, RepV.kp k r⟩
  | src =>
    obtain ⟨a, c, cells, left, mixed, turn, rfl, rfl, rfl, e1, e2⟩ := h
    simp only [Rep, srcD]
    refine ⟨a, _, rfl, hF a (by simp), .inl ⟨_, .inl e1, rfl, rfl⟩, ?_⟩
    simp only [List.map_cons, List.map_nil, RepV]
    refine ⟨_, _, rfl, ?_, _, _, rfl, ?_, _, _, rfl, ?_, _, _, rfl, ?_, rfl⟩
    · simp only [Rep]
      refine ⟨c, _, rfl, LstAt.rd (.inl e2) (hF c (by simp)), .mk (by simp) fun i d x g1 g2 => ?_⟩
      rw [List.getElem?_map] at g1 g2
      cases q : cells[i]? with
      | none => rw [q] at g1; cases g1
      | some n => rw [q] at g1 g2; cases g1; cases g2; simp only [Rep]
    · simp only [Rep]
    · simp only [Rep]
    · simp only [Rep]
  | pt =>
    obtain ⟨a, xs, ds, o, rfl, rfl, rfl, e1, e2, e3, r⟩ := h
    simp only [Rep]
    exact ⟨a, xs, rfl, .inr ⟨.inl (.inr ⟨o, e1⟩), e3⟩, RepA.kp k r⟩
/-- .. no wish about what else may hold it -/
theorem OwnAt.rep {O : Addr → Prop} {kd : Kd} {Fi : List Addr} {d : PyData} {v : V} (h : OwnAt K H O kd Fi d v) : Rep K H (fun _ => False) d v := h.repP (fun _ z => z.elim) fun _ _ z => z
/-- an operand's datum -/
theorem HoldsO.rep {o : Opd} {v : V} {d : PyData} (I : EI K ks ps G F σ H env) (h : HoldsO K ks G F σ H o v) (e : o.get env = some d) : Rep K H (if o.own then fun _ => False else OO G F) d v := by
  cases o with
  | val d' => cases e; exact h
  | slot i =>
    unfold Opd.get at e
    dsimp only at e
    have hi : ∃ d', env[i]? = some (some d') ∧ d' = d := by
      split at e
      · cases e; exact ⟨_, by assumption, rfl⟩
      · cases e
    obtain ⟨d', e1, rfl⟩ := hi
    have hk : i < ks.length := by
      rw [← I.lE]
      exact (List.getElem?_eq_some_iff.mp e1).1
    obtain ⟨v', Fi, g1, g2, o⟩ := I.sl i d' _ e1 (List.getElem?_eq_getElem hk)
    have : v' = v := by
      have h' : σ[i]? = some (some v) := h
      rw [h'] at g1; cases g1; rfl
    subst this
    exact o.rep
end

/-! ### values in, a value out -/
def Op2 (X : Cx) (f : Value → Value → Sem Value) (g : PyData → PyData → Option PyData) : Prop :=
  OpR X f (fun x y H Q => ∃ O dx dy d, (∀ p, H p = none → ¬ O p) ∧ Rep X.K H O dx x ∧ Rep X.K H O dy y ∧ g dx dy = some d ∧ ∀ v H', Same H H' → Rep X.K H' O d v → Q v H')
def Op1 (X : Cx) (f : Value → Sem Value) (g : PyData → Option PyData) : Prop :=
  UnR X f (fun x H Q => ∃ O dx d, (∀ p, H p = none → ¬ O p) ∧ Rep X.K H O dx x ∧ g dx = some d ∧ ∀ v H', Same H H' → Rep X.K H' O d v → Q v H')
def FnV (X : Cx) (f : Value) (g : List PyData → Option PyData) : Prop :=
  CallR X f (fun xs H Q => ∃ O ds d, (∀ p, H p = none → ¬ O p) ∧ RepA X.K H O ds xs ∧ g ds = some d ∧ ∀ v H', Same H H' → Rep X.K H' O d v → Q v H')

def tR (K : PySem.W.Frag) (ks : List Kd) (ps : List (Nat × V)) (m : M Opd) : TE := fun σ H Q => ∃ G F env o env', EI K ks ps G F σ H env ∧ m env = some (o, env') ∧
  ∀ v F' H', Stp F H F' H' → EI K ks ps G F' σ H' env' → HoldsO K ks G F' σ H' o v → Q v H'
def tAo (K : PySem.W.Frag) (ks : List Kd) (ps : List (Nat × V)) (m : M (List Opd)) : TA := fun σ H Q => ∃ G F env os env', EI K ks ps G F σ H env ∧ m env = some (os, env') ∧
  ∀ vs F' H', Stp F H F' H' → EI K ks ps G F' σ H' env' → HoldsA K ks G F' σ H' os vs → Q vs H'
/-- an operand -/
abbrev RD (X : Cx) (ks : List Kd) (ps : List (Nat × V)) (e : Expr) (m : M Opd) : Prop := PE X e (tR X.K ks ps m)
abbrev AoD (X : Cx) (ks : List Kd) (ps : List (Nat × V)) (es : List Expr) (m : M (List Opd)) : Prop := PA X es (tAo X.K ks ps m)

def mVal (m : M PyData) : M Opd := bnd m fun d => ret (.val d)
def mSlot (i : Nat) : M Opd := fun e => match e[i]? with
  | some (some _) => some (.slot i, e)
  | _ => none
def mVar (i : Nat) : M PyData := fun e => match e[i]? with
  | some (some d) => some (d, e)
  | _ => none
def mA0 : M (List Opd) := ret []
def mA (m : M Opd) (r : M (List Opd)) : M (List Opd) := bnd m fun o => bnd r fun os => ret (o :: os)
def rs1 (g : PyData → Option PyData) (o : Opd) : M PyData := fun e => match o.get e with
  | none => none
  | some d => match g d with
    | none => none
    | some r => if o.own && !imm r then none else some (r, e)
def rs2 (g : PyData → PyData → Option PyData) (o p : Opd) : M PyData := fun e => match o.get e with
  | none => none
  | some d => match p.get e with
    | none => none
    | some d' => match g d d' with
      | none => none
      | some r => if (o.own || p.own) && !imm r then none else some (r, e)
def rsN (g : List PyData → Option PyData) (os : List Opd) : M PyData := fun e => match getAll os e with
  | none => none
  | some ds => match g ds with
    | none => none
    | some r => if os.any Opd.own && !imm r then none else some (r, e)
def mBin (g : PyData → PyData → Option PyData) (ma mb : M Opd) : M PyData := bnd ma fun x => bnd mb fun y => rs2 g x y
def mUn (g : PyData → Option PyData) (ma : M Opd) : M PyData := bnd ma fun x => rs1 g x
def mCallB (g : List PyData → Option PyData) (ma : M (List Opd)) : M PyData := bnd ma fun os => rsN g os

section
variable {X : Cx} {ks : List Kd} {ps : List (Nat × V)} {a b c e : Expr} {es : List Expr} {pos : Pos}

theorem rd_val {m : M PyData} (h : ED X ks ps e m) : RD X ks ps e (mVal m) := PE.imp h fun σ H Q q => by
  obtain ⟨G, F, env, o, env', I, hm, q⟩ := q
  obtain ⟨d, e1, h1, h2⟩ := bnd_some hm
  cases h2
  exact ⟨G, F, env, d, env', I, h1, fun v F' H' S J r => q v F' H' S J r⟩
theorem rd_slot (i : Nat) {x : Str} (hN : X.N[i]? = some x := by rfl) (hv : Vis X.env.scope x := by first | exact Or.inl rfl | exact Or.inr (Or.inl rfl) | exact Or.inr (Or.inr rfl)) (hd : (x == ("__debug__" : Str)) = false := by decide)
    (hcd : (x == ("__classdict__" : Str)) = false := by decide) : RD X ks ps (.Name x pos) (mSlot i) := PE.imp (pe_var hN hv hd hcd) fun σ H Q q => by
  obtain ⟨G, F, env, o, env', I, hm, q⟩ := q
  unfold mSlot at hm
  split at hm
  · rename_i d he
    cases hm
    have hk : i < ks.length := by rw [← I.lE]; exact (List.getElem?_eq_some_iff.mp he).1
    obtain ⟨v, Fi, g1, g2, o⟩ := I.sl i d _ he (List.getElem?_eq_getElem hk)
    exact ⟨v, g1, q v F H .refl I g1⟩
  · cases hm
theorem ed_var (i : Nat) {x : Str} (hN : X.N[i]? = some x := by rfl) (hk : ks[i]? = some .frz := by rfl) (hv : Vis X.env.scope x := by first | exact Or.inl rfl | exact Or.inr (Or.inl rfl) | exact Or.inr (Or.inr rfl)) (hd : (x == ("__debug__" : Str)) = false := by decide)
    (hcd : (x == ("__classdict__" : Str)) = false := by decide) : ED X ks ps (.Name x pos) (mVar i) := PE.imp (pe_var hN hv hd hcd) fun σ H Q q => by
  obtain ⟨G, F, env, d, env', I, hm, q⟩ := q
  unfold mVar at hm
  split at hm
  · rename_i d' he
    cases hm
    obtain ⟨v, g1, r⟩ := I.at_frz he hk
    exact ⟨v, g1, q v F H .refl I r⟩
  · cases hm
/-- a constant -/
theorem ed_c {d : PyData} {v : V} (h : PE X e (tC v)) (hr : ∀ H O, Rep X.K H O d v) : ED X ks ps e (ret d) := PE.imp h fun σ H Q q => by
  obtain ⟨G, F, env, d', env', I, hm, q⟩ := q
  cases hm
  exact q v F H .refl I (hr _ _)
theorem ed_int {i j} : ED X ks ps (.Constant (.int i) j pos) (ret (.int i)) := ed_c pe_int fun _ _ => by simp only [Rep]
theorem ed_bl {b j} : ED X ks ps (.Constant (.bool b) j pos) (ret (.bool b)) := ed_c pe_bl fun _ _ => by simp only [Rep]
theorem ed_non {j} : ED X ks ps (.Constant .none j pos) (ret .none) := ed_c pe_non fun _ _ => by simp only [Rep]
theorem ed_str {x j} : ED X ks ps (.Constant (.str x) j pos) (ret (.str x)) := ed_c pe_str fun _ _ => by simp only [Rep]

theorem ifown {K : PySem.W.Frag} {H : Hp} {O : Addr → Prop} {b : Bool} {d : PyData} {v : V} (hi : ¬ (b && !imm d) = true) (h : Rep K H (if b then fun _ => False else O) d v) : Rep K H O d v := by
  cases b with
  | false => exact h
  | true =>
    have : imm d = true := by simpa using hi
    exact Rep.imm this h
theorem less_if {O : Addr → Prop} {H : Hp} {a b : Bool} (h : a = true → b = true) : Kp (if a then fun _ => False else O) H (if b then fun _ => False else O) H := .less fun p => by
  cases a with
  | true => rw [h rfl]; exact fun z => z
  | false =>
    cases b with
    | true => exact fun z => z.elim
    | false => exact fun z => z

/-- behind two operands -/
theorem rs2_some {g : PyData → PyData → Option PyData} {o p : Opd} {e e2 : Ev} {r : PyData} (h : rs2 g o p e = some (r, e2)) : e2 = e ∧ ∃ d d', o.get e = some d ∧ p.get e = some d' ∧ g d d' = some r ∧ ¬ ((o.own || p.own) && !imm r) = true := by
  unfold rs2 at h
  split at h
  · cases h
  · rename_i d h1
    split at h
    · cases h
    · rename_i d' h2
      split at h
      · cases h
      · rename_i r' h3
        split at h
        · cases h
        · rename_i h4
          cases h
          exact ⟨rfl, d, d', h1, h2, h3, h4⟩
theorem rs1_some {g : PyData → Option PyData} {o : Opd} {e e2 : Ev} {r : PyData} (h : rs1 g o e = some (r, e2)) : e2 = e ∧ ∃ d, o.get e = some d ∧ g d = some r ∧ ¬ (o.own && !imm r) = true := by
  unfold rs1 at h
  split at h
  · cases h
  · rename_i d h1
    split at h
    · cases h
    · rename_i r' h3
      split at h
      · cases h
      · rename_i h4
        cases h
        exact ⟨rfl, d, h1, h3, h4⟩
theorem rsN_some {g : List PyData → Option PyData} {os : List Opd} {e e2 : Ev} {r : PyData} (h : rsN g os e = some (r, e2)) : e2 = e ∧ ∃ ds, getAll os e = some ds ∧ g ds = some r ∧ ¬ (os.any Opd.own && !imm r) = true := by
  unfold rsN at h
  split at h
  · cases h
  · rename_i d h1
    split at h
    · cases h
    · rename_i r' h3
      split at h
      · cases h
      · rename_i h4
        cases h
        exact ⟨rfl, d, h1, h3, h4⟩
theorem HoldsA.rep {K : PySem.W.Frag} {G : Addr → Prop} {F : List (List Addr)} {σ : L2.St} {H : Hp} {env : Ev} (I : EI K ks ps G F σ H env) : ∀ {os : List Opd} {vs : List V} {ds : List PyData}, HoldsA K ks G F σ H os vs → getAll os env = some ds →
    RepA K H (if os.any Opd.own then fun _ => False else OO G F) ds vs
  | [], _, _, h, e => by cases e; simp only [RepA]; exact h
  | o :: r, _, ds, h, e => by
    obtain ⟨x, t, rfl, h1, h2⟩ := h
    unfold getAll at e
    split at e
    · cases e
    · rename_i d g1
      split at e
      · cases e
      · rename_i ds' g2
        cases e
        have a1 := HoldsO.rep I h1 g1
        have a2 := HoldsA.rep I h2 g2
        exact .cons (Rep.kp (less_if (by intro z; simp [z])) a1) (RepA.kp (less_if (by intro z; simp [z])) a2)

theorem OO_new {K : PySem.W.Frag} {G : Addr → Prop} {F : List (List Addr)} {σ : L2.St} {H : Hp} {env : Ev} (I : EI K ks ps G F σ H env) {p : Addr} (h : H p = none) : ¬ OO G F p := fun z => by
  rcases z with z | z
  · exact I.gt p z h
  · exact (I.tr p z).1 h
theorem fresh_if {K : PySem.W.Frag} {G : Addr → Prop} {F : List (List Addr)} {σ : L2.St} {H : Hp} {env : Ev} (I : EI K ks ps G F σ H env) {b : Bool} : ∀ p, H p = none → ¬ (if b then fun _ => False else OO G F) p := fun p hp => by
  cases b with
  | true => exact fun z => z
  | false => exact OO_new I hp
/-- the pattern of a two-place operation -/
theorem red2 {ma mb : M Opd} {g : PyData → PyData → Option PyData} {σ : L2.St} {H : Hp} {Q : VK} {r : R2}
    (hr : ∀ x y H Q, (∃ O dx dy d, (∀ p, H p = none → ¬ O p) ∧ Rep X.K H O dx x ∧ Rep X.K H O dy y ∧ g dx dy = some d ∧ ∀ v H', Same H H' → Rep X.K H' O d v → Q v H') → r x y H Q)
    (q : tD X.K ks ps (mBin g ma mb) σ H Q) : tOp r (tR X.K ks ps ma) (tR X.K ks ps mb) σ H Q := by
  obtain ⟨G, F, env, d, env', I, hm, q⟩ := q
  obtain ⟨ox, e1, h1, h2⟩ := bnd_some hm
  obtain ⟨oy, e2, h3, h4⟩ := bnd_some h2
  obtain ⟨rfl, dx, dy, g1, g2, g3, gi⟩ := rs2_some h4
  refine ⟨G, F, env, ox, e1, I, h1, fun v F1 H1 S1 I1 r1 => ⟨G, F1, e1, oy, env', I1, h3, fun u F2 H2 S2 I2 r2 => hr v u H2 Q ?_⟩⟩
  have r1' := HoldsO.rep I2 (r1.stp S2) g1
  have r2' := HoldsO.rep I2 r2 g2
  refine ⟨if (ox.own || oy.own) then fun _ => False else OO G F2, dx, dy, d, fresh_if I2, Rep.kp (less_if (by intro z; simp [z])) r1', Rep.kp (less_if (by intro z; simp [z])) r2', g3, fun w H3 s3 r3 => ?_⟩
  exact q w F2 H3 ((S1.trans S2).trans (.same s3)) (I2.same s3) (ifown gi r3)
theorem ed_bin {op : Operator} {g : PyData → PyData → Option PyData} {ma mb : M Opd} (ho : Op2 X (binaryOp op) g) (ha : RD X ks ps a ma) (hb : RD X ks ps b mb) : ED X ks ps (.BinOp a op b pos) (mBin g ma mb) :=
  PE.imp (pe_op ho ha hb) fun σ H Q q => red2 (fun x y H Q z => z) q
theorem ed_cmp {op : CmpOp} {g : PyData → PyData → Option PyData} {ma mb : M Opd} (ho : Op2 X (compareOp op) g) (ha : RD X ks ps a ma) (hb : RD X ks ps b mb) (hm : behindInMarks op b = false) : ED X ks ps (.Compare a [op] [b] pos) (mBin g ma mb) :=
  PE.imp (pe_cmpR ho ha hb hm) fun σ H Q q => red2 (fun x y H Q z => z) q
theorem ed_un {op : UnaryOp} {g : PyData → Option PyData} {ma : M Opd} (ho : Op1 X (unaryOp op) g) (ha : RD X ks ps a ma) : ED X ks ps (.UnaryOp op a pos) (mUn g ma) := PE.imp (pe_un ho ha) fun σ H Q q => by
  obtain ⟨G, F, env, d, env', I, hm, q⟩ := q
  obtain ⟨ox, e1, h1, h2⟩ := bnd_some hm
  obtain ⟨rfl, dx, g1, g3, gi⟩ := rs1_some h2
  refine ⟨G, F, env, ox, env', I, h1, fun v F1 H1 S1 I1 r1 => ⟨_, dx, d, fresh_if I1, HoldsO.rep I1 r1 g1, g3, fun w H3 s3 r3 => ?_⟩⟩
  exact q w F1 H3 (S1.trans (.same s3)) (I1.same s3) (ifown gi r3)

/-! ### tests -/
def bOf : PyData → Option Bool
  | .bool b => some b
  | _ => none
def mTest (m : M PyData) : M Bool := bnd m fun d => lft (bOf d)
theorem td_cmp {op : CmpOp} {g : PyData → PyData → Option PyData} {ma mb : M Opd} (ho : Op2 X (compareOp op) g) (ha : RD X ks ps a ma) (hb : RD X ks ps b mb) (hm : behindInMarks op b = false) : TD X ks ps (.Compare a [op] [b] pos) (mTest (mBin g ma mb)) :=
  PT.imp (pt_cmpR ho ha hb hm) fun σ H Q q => by
    obtain ⟨G, F, env, d, env', I, hm, q⟩ := q
    obtain ⟨x, e1, h1, h2⟩ := bnd_some hm
    obtain ⟨h2, rfl⟩ := lft_some h2
    refine red2 (fun x y H Q z => z) ⟨G, F, env, x, env', I, h1, fun v F' H' S J r => ?_⟩
    cases x with
    | bool k =>
      cases h2
      simp only [Rep] at r
      exact ⟨_, r, q F' H' S J⟩
    | _ => cases h2
theorem td_val {m : M PyData} (h : ED X ks ps e m) (he : ∀ whole, isTrue e X.env whole = (do let v ← whole; standAt e.pos; holding [v] (truthy v)) := by intro _; rfl) : TD X ks ps e (mTest m) :=
  PT.imp (pt_val h he) fun σ H Q q => by
    obtain ⟨G, F, env, d, env', I, hm, q⟩ := q
    obtain ⟨x, e1, h1, h2⟩ := bnd_some hm
    obtain ⟨h2, rfl⟩ := lft_some h2
    refine ⟨G, F, env, x, env', I, h1, fun v F' H' S J r => ?_⟩
    cases x with
    | bool k =>
      cases h2
      simp only [Rep] at r
      exact ⟨_, r, q F' H' S J⟩
    | _ => cases h2
def mNot (m : M Bool) : M Bool := bnd m fun b => ret (!b)
def mAnd (m n : M Bool) : M Bool := bnd m fun b => if b then n else ret false
def mOr (m n : M Bool) : M Bool := bnd m fun b => if b then ret true else n
theorem td_not {m : M Bool} (h : TD X ks ps a m) : TD X ks ps (.UnaryOp .Not a pos) (mNot m) := PT.imp (pt_not h) fun σ H Q q => by
  obtain ⟨G, F, env, d, env', I, hm, q⟩ := q
  obtain ⟨x, e1, h1, h2⟩ := bnd_some hm
  cases h2
  exact ⟨G, F, env, x, env', I, h1, fun F' H' S J => q F' H' S J⟩
theorem wd_pt {m : M Bool} (h : WD X ks ps e m) : TD X ks ps e m := PW.pt h
theorem wd_and1 {m : M Bool} (h : TD X ks ps a m) : WD X ks ps (.BoolOp .And [a] pos) m := pw_and1 h
theorem wd_or1 {m : M Bool} (h : TD X ks ps a m) : WD X ks ps (.BoolOp .Or [a] pos) m := pw_or1 h
theorem wd_and {m n : M Bool} {r : List Expr} (h : TD X ks ps a m) (h2 : WD X ks ps (.BoolOp .And (b :: r) pos) n) : WD X ks ps (.BoolOp .And (a :: b :: r) pos) (mAnd m n) := PW.imp (pw_and h h2) fun σ H Q q => by
  obtain ⟨G, F, env, d, env', I, hm, q⟩ := q
  obtain ⟨x, e1, h1, h2⟩ := bnd_some hm
  refine ⟨G, F, env, x, e1, I, h1, fun F' H' S J => ?_⟩
  cases x with
  | true => exact iteT ⟨G, F', e1, d, env', J, h2, fun F2 H2 S2 J2 => q F2 H2 (S.trans S2) J2⟩
  | false => cases h2; exact iteF (q F' H' S J)
theorem wd_or {m n : M Bool} {r : List Expr} (h : TD X ks ps a m) (h2 : WD X ks ps (.BoolOp .Or (b :: r) pos) n) : WD X ks ps (.BoolOp .Or (a :: b :: r) pos) (mOr m n) := PW.imp (pw_or h h2) fun σ H Q q => by
  obtain ⟨G, F, env, d, env', I, hm, q⟩ := q
  obtain ⟨x, e1, h1, h2⟩ := bnd_some hm
  refine ⟨G, F, env, x, e1, I, h1, fun F' H' S J => ?_⟩
  cases x with
  | false => exact iteF ⟨G, F', e1, d, env', J, h2, fun F2 H2 S2 J2 => q F2 H2 (S.trans S2) J2⟩
  | true => cases h2; exact iteT (q F' H' S J)
/-- the same as values, of bools -/
def mAndV (m n : M PyData) : M PyData := bnd (mTest m) fun b => if b then n else ret (.bool false)
def mOrV (m n : M PyData) : M PyData := bnd (mTest m) fun b => if b then ret (.bool true) else n
def mNotV (m : M PyData) : M PyData := bnd (mTest m) fun b => ret (.bool (!b))
theorem ed_one {op} {m : M PyData} (h : ED X ks ps a m) : ED X ks ps (.BoolOp op [a] pos) m := pe_one h
theorem mTest_bool {m : M PyData} {e e1 : Ev} {b : Bool} (h : mTest m e = some (b, e1)) : m e = some (.bool b, e1) := by
  obtain ⟨x, e2, h1, h2⟩ := bnd_some h
  obtain ⟨h2, rfl⟩ := lft_some h2
  cases x with
  | bool k => cases h2; exact h1
  | _ => cases h2
theorem ed_and {m n : M PyData} {r : List Expr} (h : ED X ks ps a m) (h2 : ED X ks ps (.BoolOp .And (b :: r) pos) n) : ED X ks ps (.BoolOp .And (a :: b :: r) pos) (mAndV m n) := PE.imp (pe_and h h2) fun σ H Q q => by
  obtain ⟨G, F, env, d, env', I, hm, q⟩ := q
  obtain ⟨x, e1, h1, h2⟩ := bnd_some hm
  refine ⟨G, F, env, _, e1, I, mTest_bool h1, fun v F' H' S J r => ?_⟩
  simp only [Rep] at r
  refine ⟨x, r, ?_⟩
  cases x with
  | true => exact iteT ⟨G, F', e1, d, env', J, h2, fun v F2 H2 S2 J2 => q v F2 H2 (S.trans S2) J2⟩
  | false => cases h2; exact iteF (q _ F' H' S J (by simp only [Rep]))
theorem ed_not {m : M PyData} (h : ED X ks ps a m) : ED X ks ps (.UnaryOp .Not a pos) (mNotV m) := PE.imp (pe_not h) fun σ H Q q => by
  obtain ⟨G, F, env, d, env', I, hm, q⟩ := q
  obtain ⟨x, e1, h1, h2⟩ := bnd_some hm
  cases h2
  refine ⟨G, F, env, _, _, I, mTest_bool h1, fun v F' H' S J r => ?_⟩
  simp only [Rep] at r
  exact ⟨x, r, q _ F' H' S J (by simp only [Rep])⟩
def mIf {α : Type} (c : M Bool) (m n : M α) : M α := bnd c fun b => if b then m else n
/-! ### arguments, built-ins -/
theorem ad_nil : AoD X ks ps [] mA0 := PA.imp pa_nil fun σ H Q q => by
  obtain ⟨G, F, env, d, env', I, hm, q⟩ := q
  cases hm
  exact q [] F H .refl I rfl
theorem ad_cons {m : M Opd} {r : M (List Opd)} (ha : RD X ks ps e m) (hr : AoD X ks ps es r) (hs : starEach (e :: es) X.env = (false, eval e X.env) :: starEach es X.env := by rfl) : AoD X ks ps (e :: es) (mA m r) := PA.imp (pa_cons ha hr hs) fun σ H Q q => by
  obtain ⟨G, F, env, d, env', I, hm, q⟩ := q
  obtain ⟨o, e1, h1, h2⟩ := bnd_some hm
  obtain ⟨os, e2, h3, h4⟩ := bnd_some h2
  cases h4
  refine ⟨G, F, env, o, e1, I, h1, fun v F1 H1 S1 I1 r1 => ⟨G, F1, e1, os, env', I1, h3, fun vs F2 H2 S2 I2 r2 => ?_⟩⟩
  exact q (v :: vs) F2 H2 (S1.trans S2) I2 ⟨v, vs, rfl, r1.stp S2, r2⟩
theorem redN {ma : M (List Opd)} {g : List PyData → Option PyData} {σ : L2.St} {H : Hp} {Q : VK} {r : List V → Hp → VK → Prop}
    (hr : ∀ xs H Q, (∃ O ds d, (∀ p, H p = none → ¬ O p) ∧ RepA X.K H O ds xs ∧ g ds = some d ∧ ∀ v H', Same H H' → Rep X.K H' O d v → Q v H') → r xs H Q)
    (q : tD X.K ks ps (mCallB g ma) σ H Q) : tCB r (tAo X.K ks ps ma) σ H Q := by
  obtain ⟨G, F, env, d, env', I, hm, q⟩ := q
  obtain ⟨os, e1, h1, h2⟩ := bnd_some hm
  obtain ⟨rfl, ds, g1, g3, gi⟩ := rsN_some h2
  refine ⟨G, F, env, os, env', I, h1, fun vs F1 H1 S1 I1 r1 => hr vs H1 Q ⟨_, ds, d, fresh_if I1, HoldsA.rep I1 r1 g1, g3, fun w H3 s3 r3 => ?_⟩⟩
  exact q w F1 H3 (S1.trans (.same s3)) (I1.same s3) (ifown gi r3)
variable {x : Str} {p : Pos} {id T : String} {g : List PyData → Option PyData} {ma : M (List Opd)}
theorem ed_callB (hc : FnV X (.builtin id) g) (hg : Gl X x) (hm : X.mg x = none) (hv : bootBuiltins x = some (.builtin id)) (ha : AoD X ks ps (e :: es) ma) (hn : x ≠ "__name__" := by decide) (hdb : (x == ("__debug__" : Str)) = false := by decide)
    (he : starEach (e :: es) X.env = (false, eval e X.env) :: starEach es X.env := by rfl) (hpl : (backTo pos (starEach es X.env)).any (·.1) = false := by rfl) : ED X ks ps (.Call (.Name x p) (e :: es) [] pos) (mCallB g ma) :=
  PE.imp (pe_callB hc hg hm hv ha hn hdb he hpl) fun σ H Q q => redN (fun x H Q z => z) q
theorem ed_callTy (hc : FnV X (.type T) g) (hg : Gl X x) (hm : X.mg x = none) (hv : bootBuiltins x = some (.type T)) (ha : AoD X ks ps (e :: es) ma) (hn : x ≠ "__name__" := by decide) (hdb : (x == ("__debug__" : Str)) = false := by decide)
    (he : starEach (e :: es) X.env = (false, eval e X.env) :: starEach es X.env := by rfl) (hpl : (backTo pos (starEach es X.env)).any (·.1) = false := by rfl) : ED X ks ps (.Call (.Name x p) (e :: es) [] pos) (mCallB g ma) :=
  PE.imp (pe_callTy hc hg hm hv ha hn hdb he hpl) fun σ H Q q => redN (fun x H Q z => z) q

/-! ### displays -/
def allVal : List Opd → Option (List PyData)
  | [] => some []
  | .val d :: r => match allVal r with
    | none => none
    | some ds => some (d :: ds)
  | .slot _ :: _ => none
theorem HoldsA.vals {K : PySem.W.Frag} {G : Addr → Prop} {F : List (List Addr)} {σ : L2.St} {H : Hp} : ∀ {os : List Opd} {vs : List V} {ds : List PyData}, HoldsA K ks G F σ H os vs → allVal os = some ds → RepA K H (OO G F) ds vs
  | [], _, _, h, e => by cases e; simp only [RepA]; exact h
  | .val d :: r, _, ds, h, e => by
    obtain ⟨x, t, rfl, h1, h2⟩ := h
    unfold allVal at e
    split at e
    · cases e
    · rename_i ds' g2
      cases e
      exact .cons h1 (HoldsA.vals h2 g2)
  | .slot i :: r, _, ds, h, e => by cases e
def mTup (ma : M (List Opd)) : M PyData := bnd ma fun os => lft (match allVal os with
  | none => none
  | some ds => if ds.length ≤ 1000 then some (.tuple ds) else none)
def mLst (ma : M (List Opd)) : M PyData := bnd ma fun os => lft (match allVal os with
  | none => none
  | some ds => if ds.length ≤ 1000 then some (.list ds) else none)
theorem same_upd {H : Hp} {p : Addr} {o : HO} (h : H p = none) : Same H (upd H p o) := fun b x e => by rw [upd_ne (ne_of_none e h)]; exact e
theorem ed_tup {x1} (h : AoD X ks ps es ma) : ED X ks ps (.Tuple es x1 pos) (mTup ma) := PE.imp (pe_tup h) fun σ H Q q => by
  obtain ⟨G, F, env, d, env', I, hm, q⟩ := q
  obtain ⟨os, e1, h1, h2⟩ := bnd_some hm
  obtain ⟨h2, rfl⟩ := lft_some h2
  split at h2
  · cases h2
  · rename_i ds g
    split at h2
    · cases h2
      rename_i hl
      refine ⟨G, F, env, os, env', I, h1, fun vs F1 H1 S1 I1 r1 => ?_⟩
      have ra := HoldsA.vals r1 g
      have hlen := ra.length
      refine ⟨Nat.le_of_lt (small1000 (by omega)), fun p hp => ?_⟩
      have s := same_upd (o := .tup vs) hp
      refine q _ F1 _ (S1.trans (.same s)) (I1.same s) ?_
      simp only [Rep]
      exact ⟨p, vs, rfl, .of upd_same, RepA.kp (Same.kp s) ra⟩
    · cases h2
theorem ed_lst (h : AoD X ks ps es ma) : ED X ks ps (.List es pos) (mLst ma) := PE.imp (pe_lst h) fun σ H Q q => by
  obtain ⟨G, F, env, d, env', I, hm, q⟩ := q
  obtain ⟨os, e1, h1, h2⟩ := bnd_some hm
  obtain ⟨h2, rfl⟩ := lft_some h2
  split at h2
  · cases h2
  · rename_i ds g
    split at h2
    · cases h2
      rename_i hl
      refine ⟨G, F, env, os, env', I, h1, fun vs F1 H1 S1 I1 r1 => ?_⟩
      have ra := HoldsA.vals r1 g
      have hlen := ra.length
      refine ⟨Nat.le_of_lt (small1000 (by omega)), fun p hp => ?_⟩
      have s := same_upd (o := .lst vs) hp
      refine q _ F1 _ (S1.trans (.same s)) (I1.same s) ?_
      simp only [Rep]
      exact ⟨p, vs, rfl, LstAt.rd (.inl upd_same) (OO_new I1 hp), RepA.kp (Same.kp s) ra⟩
    · cases h2
end
end DL

/-! DLC: operators and built-ins over data. -/
namespace DL
open PySem PySem.Spec PyProof.Rows L2
section
variable {X : Cx}

/-! ### numbers -/
def smallI (i : Int) : Bool := decide (-(2 ^ 64) < i) && decide (i < 2 ^ 64)
def mulOk (i j : Int) : Bool := smallI i || smallI j || decide (i.natAbs.log2 + j.natAbs.log2 < 1000000)
theorem mulOk_ok {i j : Int} (h : mulOk i j = true) : IntMulOk i j := by
  unfold mulOk smallI at h
  simp only [Bool.or_eq_true, Bool.and_eq_true, decide_eq_true_eq] at h
  rcases h with (h | h) | h
  · exact CMul.ok (.inl h)
  · exact CMul.ok (.inr h)
  · exact CMulW.ok h
def addD : PyData → PyData → Option PyData
  | .int i, .int j => some (.int (i + j))
  | .str a, .str b => if a.length + b.length ≤ sizeLine then some (.str (a ++ b)) else none
  | .tuple xs, .tuple ys => if xs.length + ys.length ≤ sizeLine then some (.tuple (xs ++ ys)) else none
  | .list xs, .list ys => if xs.length + ys.length ≤ sizeLine then some (.list (xs ++ ys)) else none
  | _, _ => none
def subD : PyData → PyData → Option PyData
  | .int i, .int j => some (.int (i - j))
  | _, _ => none
def mulD : PyData → PyData → Option PyData
  | .int i, .int j => if mulOk i j then some (.int (i * j)) else none
  | _, _ => none
def fdivD : PyData → PyData → Option PyData
  | .int i, .int j => if j ≠ 0 ∧ j.natAbs < 1073741824 then some (.int (i.fdiv j)) else none
  | _, _ => none
def modD : PyData → PyData → Option PyData
  | .int i, .int j => if j ≠ 0 then some (.int (i.fmod j)) else none
  | _, _ => none
def negD : PyData → Option PyData
  | .int i => some (.int (-i))
  | _ => none

theorem rep_int {K : PySem.W.Frag} {H : Hp} {O : Addr → Prop} {i : Int} : Rep K H O (.int i) (.int i) := by simp only [Rep]
theorem rep_bl {K : PySem.W.Frag} {H : Hp} {O : Addr → Prop} {i : Bool} : Rep K H O (.bool i) (.bl i) := by simp only [Rep]
theorem rep_str {K : PySem.W.Frag} {H : Hp} {O : Addr → Prop} {i : Str} : Rep K H O (.str i) (.str i) := by simp only [Rep]
theorem rep_non {K : PySem.W.Frag} {H : Hp} {O : Addr → Prop} : Rep K H O .none .non := by simp only [Rep]

theorem o_ints {f : Value → Value → Sem Value} {C : Int → Int → Prop} {g : Int → Int → V} (h : OpR X f (rI C g)) {G : PyData → PyData → Option PyData}
    (hG : ∀ d e r, G d e = some r → ∃ i j, d = .int i ∧ e = .int j ∧ C i j ∧ ∀ K H O, Rep K H O r (g i j)) : Op2 X f G := by
  intro pins s σ H x y v u Q I rx ry q
  obtain ⟨O, dx, dy, d, fr, r1, r2, e, q⟩ := q
  obtain ⟨i, j, rfl, rfl, c, hr⟩ := hG _ _ _ e
  simp only [Rep] at r1 r2
  subst r1; subst r2
  exact h pins s σ H _ _ v u Q I rx ry ⟨i, j, rfl, rfl, c, q _ H (.refl H) (hr _ _ _)⟩
theorem rI_of {f : Value → Value → Sem Value} {g : Int → Int → V} (h : OpR X f (rI0 g)) : OpR X f (rI (fun _ _ => True) g) := by
  intro pins s σ H x y v u Q I rx ry q
  obtain ⟨i, j, e1, e2, _, q⟩ := q
  exact h pins s σ H x y v u Q I rx ry ⟨i, j, e1, e2, q⟩
theorem op_mulA : OpR X (binaryOp .Mult) (rI (fun i j => mulOk i j = true) fun i j => .int (i * j)) := opI fun _ _ _ _ _ _ _ hc q => mul_int q (mulOk_ok hc)
theorem subD_some {d e r : PyData} (h : subD d e = some r) : ∃ i j, d = .int i ∧ e = .int j ∧ True ∧ ∀ K H O, Rep K H O r (.int (i - j)) := by
  unfold subD at h
  split at h
  · cases h; exact ⟨_, _, rfl, rfl, trivial, fun _ _ _ => rep_int⟩
  · cases h
theorem mulD_some {d e r : PyData} (h : mulD d e = some r) : ∃ i j, d = .int i ∧ e = .int j ∧ mulOk i j = true ∧ ∀ K H O, Rep K H O r (.int (i * j)) := by
  unfold mulD at h
  split at h
  · split at h
    · cases h; exact ⟨_, _, rfl, rfl, by assumption, fun _ _ _ => rep_int⟩
    · cases h
  · cases h
theorem fdivD_some {d e r : PyData} (h : fdivD d e = some r) : ∃ i j, d = .int i ∧ e = .int j ∧ CDivN i j ∧ ∀ K H O, Rep K H O r (.int (i.fdiv j)) := by
  unfold fdivD at h
  split at h
  · split at h
    · cases h; exact ⟨_, _, rfl, rfl, by assumption, fun _ _ _ => rep_int⟩
    · cases h
  · cases h
theorem modD_some {d e r : PyData} (h : modD d e = some r) : ∃ i j, d = .int i ∧ e = .int j ∧ j ≠ 0 ∧ ∀ K H O, Rep K H O r (.int (i.fmod j)) := by
  unfold modD at h
  split at h
  · split at h
    · cases h; exact ⟨_, _, rfl, rfl, by assumption, fun _ _ _ => rep_int⟩
    · cases h
  · cases h
theorem o_sub : Op2 X (binaryOp .Sub) subD := o_ints (rI_of op_sub) fun _ _ _ => subD_some
theorem o_mul : Op2 X (binaryOp .Mult) mulD := o_ints op_mulA fun _ _ _ => mulD_some
theorem o_fdiv : Op2 X (binaryOp .FloorDiv) fdivD := o_ints op_fdivN fun _ _ _ => fdivD_some
theorem o_mod : Op2 X (binaryOp .Mod) modD := o_ints op_modN fun _ _ _ => modD_some
def iaddD : PyData → PyData → Option PyData
  | .int i, .int j => some (.int (i + j))
  | _, _ => none
theorem o_neg : Op1 X (unaryOp .USub) negD := by
  intro pins s σ H x v Q I rx q
  obtain ⟨O, dx, d, fr, r1, e, q⟩ := q
  unfold negD at e
  split at e
  · cases e
    simp only [Rep] at r1
    subst r1
    exact un_neg pins s σ H _ v Q I rx ⟨_, rfl, q _ H (.refl H) rep_int⟩
  · cases e

theorem cat_listS {pins : List (Addr × Obj)} {s : Shared} {σ : L2.St} {H : Hp} {l b : Addr} {xs zs : List V} {Q : VK} (I : Inv X pins σ H s) (h1 : SqL X.K H l xs) (h2 : SqL X.K H b zs) (hz : xs.length + zs.length ≤ sizeLine)
    (q : ∀ p, H p = none → Q (.ref p) (upd H p (.lst (xs ++ zs)))) : wpAny (model X.prog X.w) X.A (binaryOp .Add (.ref l) (.ref b)) (EP X pins σ Q) X.xe s := by
  obtain ⟨its, r, ⟨⟨cls, dd, data, sl⟩, n, ho, hc, hdn, hdt⟩, hl⟩ := I.list h1
  obtain ⟨its2, r2, ⟨⟨cls2, dd2, data2, sl2⟩, n2, ho2, hc2, hdn2, hdt2⟩, hl2⟩ := I.list h2
  simp only at hc hdn hdt hc2 hdn2 hdt2
  subst hc hdn hdt hc2 hdn2 hdt2
  have l1 := r.length
  have l2 := r2.length
  have ea : its.toArray ++ its2.toArray = (its ++ its2).toArray := by simp
  refine concat_meets ⟨_, ho, rfl⟩ ⟨_, ho2, rfl⟩ noFill_list_add seq_list_add PySem.F.slot_list_add PySem.F.entry_list_add (PySem.F.args_list_add_2 _ _) (list_addW l b its.toArray its2.toArray n n2 _ _ sl sl2 (by rw [List.size_toArray, List.size_toArray]; omega)) ⟨ho, ho2, ?_⟩
  rw [ea]
  exact ⟨.ref _, _, I.lnew (t' := s.toks) (r.append r2) (by rw [List.length_append]; omega), rfl, q _ I.fresh⟩

theorem o_add : Op2 X (binaryOp .Add) addD := by
  intro pins s σ H x y v u Q I rx ry q
  obtain ⟨O, dx, dy, d, fr, r1, r2, e, q⟩ := q
  unfold addD at e
  split at e
  · cases e
    simp only [Rep] at r1 r2
    subst r1; subst r2
    exact op_add pins s σ H _ _ v u Q I rx ry ⟨_, _, rfl, rfl, q _ H (.refl H) rep_int⟩
  · split at e
    · cases e
      rename_i hz
      simp only [Rep] at r1 r2
      subst r1; subst r2
      exact op_add_str pins s σ H _ _ v u Q I rx ry ⟨_, _, rfl, rfl, hz, q _ H (.refl H) rep_str⟩
    · cases e
  · split at e
    · cases e
      rename_i xs ys hz
      simp only [Rep] at r1 r2
      obtain ⟨a, vs, rfl, t1, a1⟩ := r1
      obtain ⟨b, ws, rfl, t2, a2⟩ := r2
      have l1 := a1.length
      have l2 := a2.length
      refine op_catA pins s σ H _ _ v u Q I rx ry ⟨a, b, vs, ws, rfl, rfl, t1.sq, t2.sq, by omega, fun z => ?_, fun z z2 => ?_, fun z z2 p hp => ?_⟩
      · subst z
        have : xs = [] := List.eq_nil_of_length_eq_zero l1
        subst this
        refine q _ H (.refl H) ?_
        simp only [Rep]
        exact ⟨b, ws, rfl, t2, a2⟩
      · subst z2
        have : ys = [] := List.eq_nil_of_length_eq_zero l2
        subst this
        refine q _ H (.refl H) ?_
        rw [List.append_nil]
        simp only [Rep]
        exact ⟨a, vs, rfl, t1, a1⟩
      · have sm := same_upd (o := .tup (vs ++ ws)) hp
        refine q _ _ sm ?_
        simp only [Rep]
        exact ⟨p, _, rfl, .of upd_same, (RepA.kp (Same.kp sm) a1).append (RepA.kp (Same.kp sm) a2)⟩
    · cases e
  · split at e
    · cases e
      rename_i xs ys hz
      simp only [Rep] at r1 r2
      obtain ⟨a, vs, rfl, t1, a1⟩ := r1
      obtain ⟨b, ws, rfl, t2, a2⟩ := r2
      have l1 := a1.length
      have l2 := a2.length
      cases rx
      cases ry
      refine cat_listS I t1.sq t2.sq (by omega) fun p hp => ?_
      have sm := same_upd (o := .lst (vs ++ ws)) hp
      refine q _ _ sm ?_
      simp only [Rep]
      exact ⟨p, _, rfl, LstAt.rd (.inl upd_same) (fr p hp), (RepA.kp (Same.kp sm) a1).append (RepA.kp (Same.kp sm) a2)⟩
    · cases e
  · cases e

/-! ### comparisons -/
mutual
theorem Rep.dp {K : PySem.W.Frag} {H : Hp} {O : Addr → Prop} : ∀ {d : PyData} {v : V}, d.canLay0 = true → Rep K H O d v → Dp K H v d
  | .none, v, _, h => by simp only [Rep] at h; subst h; exact .non
  | .bool b, v, _, h => by simp only [Rep] at h; subst h; exact .bl b
  | .int i, v, _, h => by simp only [Rep] at h; subst h; exact .int i
  | .str x, v, _, h => by simp only [Rep] at h; subst h; exact .str x
  | .list ds, v, c, h => by
    simp only [Rep] at h
    simp only [PyData.canLay0] at c
    obtain ⟨a, xs, rfl, h1, h2⟩ := h
    exact .lst h1.sq (RepA.dp c h2)
  | .tuple ds, v, c, h => by
    simp only [Rep] at h
    simp only [PyData.canLay0] at c
    obtain ⟨a, xs, rfl, h1, h2⟩ := h
    exact .tup h1.sq (RepA.dp c h2)
  | .dict kvs, v, c, h => by simp only [PyData.canLay0] at c; cases c
theorem RepA.dp {K : PySem.W.Frag} {H : Hp} {O : Addr → Prop} : ∀ {ds : List PyData} {xs : List V}, PyData.canLayAll0 ds = true → RepA K H O ds xs → DpAll K H xs ds
  | [], xs, _, h => by simp only [RepA] at h; subst h; exact .nil
  | d :: ds, xs, c, h => by
    simp only [RepA] at h
    simp only [PyData.canLayAll0, Bool.and_eq_true] at c
    obtain ⟨x, r, rfl, h1, h2⟩ := h
    exact .cons (Rep.dp c.1 h1) (RepA.dp c.2 h2)
end
def ltD : PyData → PyData → Option PyData
  | .int i, .int j => some (.bool (decide (i < j)))
  | _, _ => none
def leD : PyData → PyData → Option PyData
  | .int i, .int j => some (.bool (decide (i ≤ j)))
  | _, _ => none
def gtD : PyData → PyData → Option PyData
  | .int i, .int j => some (.bool (decide (j < i)))
  | _, _ => none
def geD : PyData → PyData → Option PyData
  | .int i, .int j => some (.bool (decide (j ≤ i)))
  | _, _ => none
theorem o_lt : Op2 X (compareOp .Lt) ltD := o_ints (rI_of op_lt) fun d e r h => by
  unfold ltD at h
  split at h
  · cases h; exact ⟨_, _, rfl, rfl, trivial, fun _ _ _ => rep_bl⟩
  · cases h
theorem o_le : Op2 X (compareOp .LtE) leD := o_ints (rI_of op_le) fun d e r h => by
  unfold leD at h
  split at h
  · cases h; exact ⟨_, _, rfl, rfl, trivial, fun _ _ _ => rep_bl⟩
  · cases h
theorem o_gt : Op2 X (compareOp .Gt) gtD := o_ints (rI_of op_gt) fun d e r h => by
  unfold gtD at h
  split at h
  · cases h; exact ⟨_, _, rfl, rfl, trivial, fun _ _ _ => rep_bl⟩
  · cases h
def eqB (d e : PyData) : Option Bool := match d, e with
  | .str x, .str y => some (decide (x = y))
  | d, e => if SeqAt.shaped d && SeqAt.shaped e then some (PyData.eqv d e) else none
def eqD (d e : PyData) : Option PyData := (eqB d e).map .bool
def neD (d e : PyData) : Option PyData := (eqB d e).map fun b => .bool (!b)
theorem eqB_some {d e : PyData} {b : Bool} (h : eqB d e = some b) : (∃ x y, d = .str x ∧ e = .str y ∧ b = decide (x = y)) ∨ (SeqAt.shaped d = true ∧ SeqAt.shaped e = true ∧ b = PyData.eqv d e) := by
  unfold eqB at h
  split at h
  · cases h; exact .inl ⟨_, _, rfl, rfl, rfl⟩
  · split at h
    · rename_i hs
      cases h
      rw [Bool.and_eq_true] at hs
      exact .inr ⟨hs.1, hs.2, rfl⟩
    · cases h
theorem o_eq (hu : X.A.units + 64 < cLine) : Op2 X (compareOp .Eq) eqD := by
  intro pins s σ H x y v u Q I rx ry q
  obtain ⟨O, dx, dy, d, fr, r1, r2, e, q⟩ := q
  unfold eqD at e
  cases hb : eqB dx dy with
  | none => rw [hb] at e; cases e
  | some b =>
    rw [hb] at e; cases e
    rcases eqB_some hb with ⟨a, c, rfl, rfl, rfl⟩ | ⟨h1, h2, rfl⟩
    · simp only [Rep] at r1 r2
      subst r1; subst r2
      refine op_eq pins s σ H _ _ v u Q I rx ry ⟨rfl, q _ H (.refl H) ?_⟩
      simp only [Rep, V.str.injEq]
    · exact op_eqD hu pins s σ H _ _ v u Q I rx ry ⟨dx, dy, r1.dp (SeqAt.canLay_of_shaped h1), r2.dp (SeqAt.canLay_of_shaped h2), h1, h2, q _ H (.refl H) rep_bl⟩
theorem o_ne (hu : X.A.units + 64 < cLine) : Op2 X (compareOp .NotEq) neD := by
  intro pins s σ H x y v u Q I rx ry q
  obtain ⟨O, dx, dy, d, fr, r1, r2, e, q⟩ := q
  unfold neD at e
  cases hb : eqB dx dy with
  | none => rw [hb] at e; cases e
  | some b =>
    rw [hb] at e; cases e
    rcases eqB_some hb with ⟨a, c, rfl, rfl, rfl⟩ | ⟨h1, h2, rfl⟩
    · simp only [Rep] at r1 r2
      subst r1; subst r2
      refine op_ne pins s σ H _ _ v u Q I rx ry ⟨rfl, q _ H (.refl H) ?_⟩
      simp only [Rep, V.str.injEq]
    · exact op_neD hu pins s σ H _ _ v u Q I rx ry ⟨dx, dy, r1.dp (SeqAt.canLay_of_shaped h1), r2.dp (SeqAt.canLay_of_shaped h2), h1, h2, q _ H (.refl H) rep_bl⟩
def itsOf : PyData → Option (List PyData)
  | .list ds => some ds
  | .tuple ds => some ds
  | _ => none
def inB (d e : PyData) : Option Bool := match itsOf e with
  | some ds => if SeqAt.shaped d && SeqAt.shaped e then some (ds.any fun z => PyData.eqv z d) else none
  | none => none
def inD (d e : PyData) : Option PyData := (inB d e).map .bool
def notInD (d e : PyData) : Option PyData := (inB d e).map fun b => .bool (!b)
def isNon : PyData → Bool
  | .none => true
  | _ => false
/-- x is None, x is True -/
def isD : PyData → PyData → Option PyData
  | d, .none => some (.bool (isNon d))
  | .bool a, .bool b => some (.bool (decide (a = b)))
  | _, _ => none
def isNotD : PyData → PyData → Option PyData
  | d, .none => some (.bool (!isNon d))
  | .bool a, .bool b => some (.bool (!decide (a = b)))
  | _, _ => none
/-! ### built-in functions -/
def lenD : List PyData → Option PyData
  | [.list ds] => some (.int ds.length)
  | [.tuple ds] => some (.int ds.length)
  | _ => none
theorem repA1 {K : PySem.W.Frag} {H : Hp} {O : Addr → Prop} {d : PyData} {xs : List V} (h : RepA K H O [d] xs) : ∃ x, xs = [x] ∧ Rep K H O d x := by
  simp only [RepA] at h
  obtain ⟨x, r, rfl, h1, rfl⟩ := h
  exact ⟨x, rfl, h1⟩
theorem repA2 {K : PySem.W.Frag} {H : Hp} {O : Addr → Prop} {d e : PyData} {xs : List V} (h : RepA K H O [d, e] xs) : ∃ x y, xs = [x, y] ∧ Rep K H O d x ∧ Rep K H O e y := by
  simp only [RepA] at h
  obtain ⟨x, r, rfl, h1, y, r2, rfl, h2, rfl⟩ := h
  exact ⟨x, y, rfl, h1, h2⟩
theorem f_len : FnV X (.builtin "len") lenD := by
  intro pins s σ H xs us Q I r q
  obtain ⟨O, ds, d, fr, r1, e, q⟩ := q
  unfold lenD at e
  split at e
  · cases e
    obtain ⟨x, rfl, r2⟩ := repA1 r1
    simp only [Rep] at r2
    obtain ⟨a, vs, rfl, t1, a1⟩ := r2
    refine call_len_seq pins s σ H _ us Q I r ⟨a, vs, rfl, .inl t1.sq, q _ H (.refl H) ?_⟩
    rw [a1.length]
    exact rep_int
  · cases e
    obtain ⟨x, rfl, r2⟩ := repA1 r1
    simp only [Rep] at r2
    obtain ⟨a, vs, rfl, t1, a1⟩ := r2
    refine call_len_seq pins s σ H _ us Q I r ⟨a, vs, rfl, .inr t1.sq, q _ H (.refl H) ?_⟩
    rw [a1.length]
    exact rep_int
  · cases e
def absD : List PyData → Option PyData
  | [.int i] => some (.int (if i < 0 then -i else i))
  | _ => none
theorem f_abs : FnV X (.builtin "abs") absD := by
  intro pins s σ H xs us Q I r q
  obtain ⟨O, ds, d, fr, r1, e, q⟩ := q
  unfold absD at e
  split at e
  · cases e
    obtain ⟨x, rfl, r2⟩ := repA1 r1
    simp only [Rep] at r2
    subst r2
    exact call_abs pins s σ H _ us Q I r ⟨_, rfl, q _ H (.refl H) rep_int⟩
  · cases e
def max2D : List PyData → Option PyData
  | [.int i, .int j] => some (.int (if j > i then j else i))
  | _ => none
def min2D : List PyData → Option PyData
  | [.int i, .int j] => some (.int (if j < i then j else i))
  | _ => none
theorem f_max2 (hc : X.calm = true) : FnV X (.builtin "max") max2D := by
  intro pins s σ H xs us Q I r q
  obtain ⟨O, ds, d, fr, r1, e, q⟩ := q
  unfold max2D at e
  split at e
  · cases e
    obtain ⟨x, y, rfl, r2, r3⟩ := repA2 r1
    simp only [Rep] at r2 r3
    subst r2; subst r3
    exact call_max2 hc pins s σ H _ us Q I r ⟨_, _, rfl, q _ H (.refl H) rep_int⟩
  · cases e
def intD : List PyData → Option PyData
  | [.int i] => some (.int i)
  | [.bool b] => some (.int (if b then 1 else 0))
  | _ => none
theorem f_int : FnV X (.type "int") intD := by
  intro pins s σ H xs us Q I r q
  obtain ⟨O, ds, d, fr, r1, e, q⟩ := q
  unfold intD at e
  split at e
  · cases e
    obtain ⟨x, rfl, r2⟩ := repA1 r1
    simp only [Rep] at r2
    subst r2
    exact call_int1 pins s σ H _ us Q I r (.inl ⟨_, rfl, q _ H (.refl H) rep_int⟩)
  · cases e
    obtain ⟨x, rfl, r2⟩ := repA1 r1
    simp only [Rep] at r2
    subst r2
    exact call_int1 pins s σ H _ us Q I r (.inr ⟨_, rfl, q _ H (.refl H) rep_int⟩)
  · cases e
def tupleD : List PyData → Option PyData
  | [.list ds] => some (.tuple ds)
  | [.tuple ds] => some (.tuple ds)
  | _ => none
theorem f_tuple : FnV X (.type "tuple") tupleD := by
  intro pins s σ H xs us Q I r q
  obtain ⟨O, ds, d, fr, r1, e, q⟩ := q
  unfold tupleD at e
  split at e
  · cases e
    obtain ⟨x, rfl, r2⟩ := repA1 r1
    simp only [Rep] at r2
    obtain ⟨a, vs, rfl, t1, a1⟩ := r2
    refine call_tuple_of pins s σ H _ us Q I r ⟨a, vs, rfl, .inl ⟨t1.sq, fun p hp => ?_⟩⟩
    have sm := same_upd (o := .tup vs) hp
    refine q _ _ sm ?_
    simp only [Rep]
    exact ⟨p, vs, rfl, .of upd_same, RepA.kp (Same.kp sm) a1⟩
  · cases e
    obtain ⟨x, rfl, r2⟩ := repA1 r1
    have r2' := r2
    simp only [Rep] at r2
    obtain ⟨a, vs, rfl, t1, a1⟩ := r2
    exact call_tuple_of pins s σ H _ us Q I r ⟨a, vs, rfl, .inr ⟨t1.sq, q _ H (.refl H) r2'⟩⟩
  · cases e
def listD : List PyData → Option PyData
  | [.list ds] => some (.list ds)
  | [.tuple ds] => some (.list ds)
  | _ => none
theorem f_list : FnV X (.type "list") listD := by
  intro pins s σ H xs us Q I r q
  obtain ⟨O, ds, d, fr, r1, e, q⟩ := q
  have fin : ∀ {a : Addr} {vs : List V} {ds : List PyData}, RepA X.K H O ds vs → d = .list ds → ∀ p, H p = none → Q (.ref p) (upd H p (.lst vs)) := by
    rintro a vs ds a1 rfl p hp
    have sm := same_upd (o := .lst vs) hp
    refine q _ _ sm ?_
    simp only [Rep]
    exact ⟨p, vs, rfl, LstAt.rd (.inl upd_same) (fr p hp), RepA.kp (Same.kp sm) a1⟩
  unfold listD at e
  split at e
  · cases e
    obtain ⟨x, rfl, r2⟩ := repA1 r1
    simp only [Rep] at r2
    obtain ⟨a, vs, rfl, t1, a1⟩ := r2
    exact call_list_of pins s σ H _ us Q I r ⟨a, vs, rfl, .inl t1.sq, fin (a := a) a1 rfl⟩
  · cases e
    obtain ⟨x, rfl, r2⟩ := repA1 r1
    simp only [Rep] at r2
    obtain ⟨a, vs, rfl, t1, a1⟩ := r2
    exact call_list_of pins s σ H _ us Q I r ⟨a, vs, rfl, .inr t1.sq, fin (a := a) a1 rfl⟩
  · cases e
def intsOf : List PyData → Option (List Int)
  | [] => some []
  | .int i :: r => match intsOf r with
    | some ns => some (i :: ns)
    | none => none
  | _ :: _ => none
def boolsOf : List PyData → Option (List Bool)
  | [] => some []
  | .bool i :: r => match boolsOf r with
    | some ns => some (i :: ns)
    | none => none
  | _ :: _ => none
theorem intsOf_some : ∀ {ds : List PyData} {ns : List Int}, intsOf ds = some ns → ds = ns.map .int
  | [], ns, h => by cases h; rfl
  | .int i :: r, ns, h => by
    unfold intsOf at h
    split at h
    · cases h; rename_i ms hm; rw [intsOf_some hm]; rfl
    · cases h
  | .none :: _, _, h => by cases h
  | .bool _ :: _, _, h => by cases h
  | .str _ :: _, _, h => by cases h
  | .list _ :: _, _, h => by cases h
  | .tuple _ :: _, _, h => by cases h
  | .dict _ :: _, _, h => by cases h
theorem boolsOf_some : ∀ {ds : List PyData} {ns : List Bool}, boolsOf ds = some ns → ds = ns.map .bool
  | [], ns, h => by cases h; rfl
  | .bool i :: r, ns, h => by
    unfold boolsOf at h
    split at h
    · cases h; rename_i ms hm; rw [boolsOf_some hm]; rfl
    · cases h
  | .none :: _, _, h => by cases h
  | .int _ :: _, _, h => by cases h
  | .str _ :: _, _, h => by cases h
  | .list _ :: _, _, h => by cases h
  | .tuple _ :: _, _, h => by cases h
  | .dict _ :: _, _, h => by cases h
@[simp] theorem intsOf_map (ns : List Int) : intsOf (ns.map .int) = some ns := by
  induction ns with
  | nil => rfl
  | cons n r ih => rw [List.map_cons, intsOf, ih]
@[simp] theorem boolsOf_map (ns : List Bool) : boolsOf (ns.map .bool) = some ns := by
  induction ns with
  | nil => rfl
  | cons n r ih => rw [List.map_cons, boolsOf, ih]
theorem repA_ints {K : PySem.W.Frag} {H : Hp} {O : Addr → Prop} : ∀ {ns : List Int} {xs : List V}, RepA K H O (ns.map .int) xs → xs = ns.map V.int
  | [], xs, h => by simpa only [List.map_nil, RepA] using h
  | n :: r, xs, h => by
    simp only [List.map_cons, RepA] at h
    obtain ⟨x, t, rfl, h1, h2⟩ := h
    simp only [Rep] at h1
    subst h1
    rw [repA_ints h2]
    rfl
theorem repA_bools {K : PySem.W.Frag} {H : Hp} {O : Addr → Prop} : ∀ {ns : List Bool} {xs : List V}, RepA K H O (ns.map .bool) xs → xs = ns.map V.bl
  | [], xs, h => by simpa only [List.map_nil, RepA] using h
  | n :: r, xs, h => by
    simp only [List.map_cons, RepA] at h
    obtain ⟨x, t, rfl, h1, h2⟩ := h
    simp only [Rep] at h1
    subst h1
    rw [repA_bools h2]
    rfl
def sumD : List PyData → Option PyData
  | [.list ds] => match intsOf ds with
    | some ns => some (.int ns.sum)
    | none => none
  | [.tuple ds] => match intsOf ds with
    | some ns => some (.int ns.sum)
    | none => none
  | _ => none
theorem sum_rawT {pins : List (Addr × Obj)} {s : Shared} {A : Around} {E : Value → Shared → Prop} {l : Addr} {its : List Value} {ns : List Int} {Q : Value → Shared → Prop} (hh : A.handled = none) (hl : s.heap.IsTuple l its.toArray) (hi : IntsAre its ns)
    (h : ∀ h' tk t', (∀ b o, s.heap.get? b = some o → h'.get? b = some o) → Q (.int ns.sum t') { s with heap := h', toks := tk }) : wpAny (model X.prog X.w) A (call (.builtin "sum") [.ref l]) Q E s := by
  obtain ⟨xs, e⟩ := hi.allInts.items
  have hn : numsOf (intItems xs).toList = ns := by rw [← e]; exact hi.numsOf
  rw [nums_intItems] at hn
  rw [e] at hl
  refine PySem.W.ktm_sumG hh hl fun h' tk t' hk => ?_
  have := h h' tk t' hk
  rw [preSum_eq, List.take_of_length_le (by simp), hn]; exact this
theorem f_sum (hc : X.calm = true) : FnV X (.builtin "sum") sumD := by
  intro pins s σ H xs us Q I r q
  obtain ⟨O, ds, d, fr, r1, e, q⟩ := q
  unfold sumD at e
  split at e
  · split at e
    · cases e
      rename_i hn
      obtain ⟨x, rfl, r2⟩ := repA1 r1
      simp only [Rep] at r2
      obtain ⟨a, vs, rfl, t1, a1⟩ := r2
      rw [intsOf_some hn] at a1
      obtain rfl := repA_ints a1
      exact cr_sum hc pins s σ H _ us Q I r ⟨a, _, rfl, t1.sq, q _ H (.refl H) rep_int⟩
    · cases e
  · split at e
    · cases e
      rename_i hn
      obtain ⟨x, rfl, r2⟩ := repA1 r1
      simp only [Rep] at r2
      obtain ⟨a, vs, rfl, t1, a1⟩ := r2
      rw [intsOf_some hn] at a1
      obtain rfl := repA_ints a1
      obtain ⟨its, rv, hl, _⟩ := I.tuple t1.sq
      rw [Vals.ref1 r]
      exact sum_rawT (pins := pins) (I.ok.hd hc) hl rv.ints fun h' tk t' hk => ⟨.int _, H, I.kept hk, ⟨_, rfl⟩, q _ H (.refl H) rep_int⟩
    · cases e
  · cases e
def allD : List PyData → Option PyData
  | [.list ds] => match boolsOf ds with
    | some ns => some (.bool (ns.all id))
    | none => none
  | _ => none
theorem f_all (hc : X.calm = true) : FnV X (.builtin "all") allD := by
  intro pins s σ H xs us Q I r q
  obtain ⟨O, ds, d, fr, r1, e, q⟩ := q
  unfold allD at e
  split at e
  · split at e
    · cases e
      rename_i hn
      obtain ⟨x, rfl, r2⟩ := repA1 r1
      simp only [Rep] at r2
      obtain ⟨a, vs, rfl, t1, a1⟩ := r2
      rw [boolsOf_some hn] at a1
      obtain rfl := repA_bools a1
      exact cr_all hc pins s σ H _ us Q I r ⟨a, _, rfl, t1.sq, q _ H (.refl H) rep_bl⟩
    · cases e
  · cases e
/-! ### repr -/
mutual
/-- data that repr is served of: no dict but {} -/
def layD : PyData → Bool
  | .none | .bool _ | .int _ => true
  | .str _ => true
  | .list xs | .tuple xs => layA xs
  | .dict kvs => kvs.isEmpty
def layA : List PyData → Bool
  | [] => true
  | x :: xs => layD x && layA xs
end
mutual
def noL : PyData → Bool
  | .none | .bool _ | .int _ | .str _ => true
  | .list _ => false
  | .tuple xs => noLA xs
  | .dict _ => true
def noLA : List PyData → Bool
  | [] => true
  | x :: xs => noL x && noLA xs
end
section
variable {pins : List (Addr × Obj)} {σ : L2.St} {H : Hp} {s : Shared} {O : Addr → Prop}
mutual
theorem Rep.reads (I : Inv X pins σ H s) : ∀ {d : PyData} {v : V} {u : Value}, layD d = true → Rep X.K H O d v → RelV v u → ∃ as, Reads s.heap u d as ∧ (noL d = true → sysModules ∉ as)
  | .none, _, _, _, h, r => by
    simp only [Rep] at h
    subst h
    cases r
    exact ⟨_, Reads.none, fun _ z => nomatch z⟩
  | .bool b, _, _, _, h, r => by
    simp only [Rep] at h
    subst h
    cases r
    exact ⟨_, Reads.bool b, fun _ z => nomatch z⟩
  | .int i, _, _, _, h, r => by
    simp only [Rep] at h
    subst h
    obtain ⟨t, rfl⟩ := r
    exact ⟨_, Reads.int i t, fun _ z => nomatch z⟩
  | .str x, _, _, _, h, r => by
    simp only [Rep] at h
    subst h
    obtain ⟨t, rfl⟩ := r
    exact ⟨_, Reads.str x t, fun _ z => nomatch z⟩
  | .list ds, _, _, l, h, r => by
    simp only [Rep] at h
    simp only [layD] at l
    obtain ⟨a, xs, rfl, h1, h2⟩ := h
    cases r
    obtain ⟨its, rv, ⟨o, n, ho, hc, _, hd⟩, _⟩ := I.list (h1.sq (K := X.K))
    obtain ⟨as, hr, _⟩ := RepA.reads I l h2 rv
    exact ⟨_, Reads.list ho hc hd hr, fun z => by simp only [noL] at z; cases z⟩
  | .tuple ds, _, _, l, h, r => by
    simp only [Rep] at h
    simp only [layD] at l
    obtain ⟨a, xs, rfl, h1, h2⟩ := h
    cases r
    obtain ⟨its, rv, ⟨o, ho, hc, n, hd⟩, _⟩ := I.tuple h1.sq
    obtain ⟨as, hr, hn⟩ := RepA.reads I l h2 rv
    exact ⟨_, Reads.tuple ho hc hd hr, fun z => by simp only [noL] at z; exact hn z⟩
  | .dict kvs, _, _, l, h, r => by
    simp only [Rep] at h
    simp only [layD, List.isEmpty_iff] at l
    subst l
    obtain ⟨a, xs, rfl, _, h1, h2⟩ := h
    simp only [RepV] at h2
    subst h2
    cases r
    rcases h1 with ⟨l, h1, e1, e2⟩ | ⟨l, h1, e1, e2⟩
    · have : l = [] := by cases l with
        | nil => rfl
        | cons p r => simp at e2
      subst this
      obtain ⟨_, hy, vs, r', o, es, ep, ho, hx, hd, _, hp, _⟩ := dk_rd I.hok h1
      have hv : vs = [] := List.eq_nil_of_length_eq_zero (by have := KV.length r'; simpa using this.symm)
      subst hv
      have he : es.toList = [] := by
        have := hp.length
        exact List.eq_nil_of_length_eq_zero (by simpa using this)
      refine ⟨_, Reads.dict (kvs := []) ho hx.1 hd (by rw [he]; exact .nil) (by rw [he]; exact .nil), fun _ z => ?_⟩
      have z' : sysModules = a := by simpa using z
      rw [z'] at hy
      simp at hy
    · have : l = [] := by cases l with
        | nil => rfl
        | cons p r => simp at e2
      subst this
      obtain ⟨_, hy, vs, r', o, es, ep, ho, hx, hd, he, _⟩ := dt_rd I.hok h1
      have hv : vs = [] := List.eq_nil_of_length_eq_zero (by have := Paired.length r'; simpa using this.symm)
      subst hv
      have he : es.toList = [] := by simpa using he
      refine ⟨_, Reads.dict (kvs := []) ho hx.1 hd (by rw [he]; exact .nil) (by rw [he]; exact .nil), fun _ z => ?_⟩
      have z' : sysModules = a := by simpa using z
      rw [z'] at hy
      simp at hy
theorem RepA.reads (I : Inv X pins σ H s) : ∀ {ds : List PyData} {vs : List V} {us : List Value}, layA ds = true → RepA X.K H O ds vs → Vals vs us → ∃ as, ReadsAll s.heap us ds as ∧ (noLA ds = true → sysModules ∉ as)
  | [], _, _, _, h, r => by
    simp only [RepA] at h
    subst h
    cases r
    exact ⟨_, ReadsAll.nil, fun _ z => nomatch z⟩
  | d :: ds, _, _, l, h, r => by
    simp only [RepA] at h
    simp only [layA, Bool.and_eq_true] at l
    obtain ⟨x, t, rfl, h1, h2⟩ := h
    cases r with
    | cons r1 r2 =>
      obtain ⟨as, q1, n1⟩ := Rep.reads I l.1 h1 r1
      obtain ⟨bs, q2, n2⟩ := RepA.reads I l.2 h2 r2
      refine ⟨_, ReadsAll.cons q1 q2, fun z m => ?_⟩
      simp only [noLA, Bool.and_eq_true] at z
      rcases List.mem_append.mp m with m | m
      · exact n1 z.1 m
      · exact n2 z.2 m
end
end
def reprOk (d : PyData) : Bool := d.showable && layD d && (!d.hasDict || noL d) && decide (d.shown.length ≤ sizeLine) && decide (d.depth ≤ 60)
def reprD : List PyData → Option PyData
  | [d] => if reprOk d then some (.str d.shown) else none
  | _ => none
theorem f_repr (hg : X.A.guards = some []) (hu : X.A.units + 64 < cLine) : FnV X (.builtin "repr") reprD := by
  intro pins s σ H xs us Q I r q
  obtain ⟨O, ds, d, fr, r1, e, q⟩ := q
  unfold reprD at e
  split at e
  · rename_i dd
    split at e
    · cases e
      rename_i hb
      unfold reprOk at hb
      simp only [Bool.and_eq_true, Bool.or_eq_true, Bool.not_eq_true', decide_eq_true_eq] at hb
      obtain ⟨⟨⟨⟨h1, h2⟩, h5⟩, h3⟩, h4⟩ := hb
      obtain ⟨x, rfl, r2⟩ := repA1 r1
      obtain ⟨u, rfl, rx⟩ := vals1 r
      have fin : Q (.str dd.shown) H := q _ H (.refl H) rep_str
      obtain ⟨as, rd, hn⟩ := Rep.reads I h2 r2 rx
      have hsm : dd.hasDict = true → sysModules ∉ as := fun z => by
        rcases h5 with h5 | h5
        · rw [h5] at z; cases z
        · exact hn h5
      have big : ∀ {a : Addr}, u = .ref a → wpAny (model X.prog X.w) X.A (call (.builtin "repr") [u]) (EP X pins σ Q) X.xe s := fun {a} e => by
        subst e
        exact repr_of_reads' rd h1 hsm hg (by omega) (fun _ _ e => e) (fun h' u tk k => ⟨.str dd.shown, H, I.kept k, ⟨_, rfl⟩, fin⟩) h3
      cases dd with
      | none =>
        simp only [Rep] at r2
        subst r2
        cases rx
        simp only [PyData.shown] at fin
        exact PySem.P.repr_of_none ⟨.str "None", H, I.tok _, ⟨_, rfl⟩, fin⟩
      | bool b =>
        simp only [Rep] at r2
        subst r2
        cases rx
        simp only [PyData.shown] at fin
        exact PySem.P.repr_of_bool ⟨.str (if b then "True" else "False"), H, I.tok _, ⟨_, rfl⟩, fin⟩
      | int i =>
        simp only [Rep] at r2
        subst r2
        obtain ⟨t, rfl⟩ := rx
        simp only [PyData.shown] at fin
        exact PySem.P.repr_of_int (by simpa [PyData.showable] using h1) ⟨.str (toString i), H, I.tok _, ⟨_, rfl⟩, fin⟩
      | str z =>
        simp only [Rep] at r2
        subst r2
        obtain ⟨t, rfl⟩ := rx
        simp only [PyData.shown] at fin h3
        exact PySem.P.repr_of_str ⟨.str (reprText z), H, I.tok _, ⟨_, rfl⟩, fin⟩ h3
      | list ds =>
        simp only [Rep] at r2
        obtain ⟨a, vs, rfl, _⟩ := r2
        cases rx
        exact big rfl
      | tuple ds =>
        simp only [Rep] at r2
        obtain ⟨a, vs, rfl, _⟩ := r2
        cases rx
        exact big rfl
      | dict kvs =>
        simp only [Rep] at r2
        obtain ⟨a, vs, rfl, _⟩ := r2
        cases rx
        exact big rfl
    · cases e
  · cases e

/-! ### isinstance -/
def tyD : PyData → String
  | .none => "NoneType"
  | .bool _ => "bool"
  | .int _ => "int"
  | .str _ => "str"
  | .list _ => "list"
  | .tuple _ => "tuple"
  | .dict _ => "dict"
def isiT (t c : String) : Bool := t == c || (t == "bool" && c == "int")
theorem Rep.kit {pins : List (Addr × Obj)} {σ : L2.St} {H : Hp} {s : Shared} {O : Addr → Prop} {d : PyData} {v : V} {u : Value} (I : Inv X pins σ H s) (rx : RelV v u) (h : Rep X.K H O d v) :
    ∃ P : Heap → Prop, PySem.W.KitX X.K u (.type (tyD d)) P ∧ P s.heap ∧ ∀ id : String, u ≠ .builtin id := by
  have more : ∀ {t : Value} {q : Prop}, (∃ P : Heap → Prop, PySem.W.KitX X.K u t P ∧ P s.heap ∧ q) → (∀ id : String, u ≠ .builtin id) → ∃ P : Heap → Prop, PySem.W.KitX X.K u t P ∧ P s.heap ∧ ∀ id : String, u ≠ .builtin id := fun h n => by
    obtain ⟨P, h1, h2, _⟩ := h
    exact ⟨P, h1, h2, n⟩
  have ref : ∀ {a : Addr}, RelV (.ref a) u → ∀ id : String, u ≠ .builtin id := fun {a} r id z => by
    cases r
    cases z
  cases d with
  | none => simp only [Rep] at h; subst h; exact more (kit_of I rx (.base .non)) fun id z => by cases rx; cases z
  | bool b => simp only [Rep] at h; subst h; exact more (kit_of I rx (.base (.bl b))) fun id z => by cases rx; cases z
  | int i => simp only [Rep] at h; subst h; exact more (kit_of I rx (.base (.int i))) fun id z => by obtain ⟨t, rfl⟩ := rx; cases z
  | str x => simp only [Rep] at h; subst h; exact more (kit_of I rx (.base (.str x))) fun id z => by obtain ⟨t, rfl⟩ := rx; cases z
  | list ds =>
    simp only [Rep] at h
    obtain ⟨a, xs, rfl, ⟨h1 | ⟨o, h1⟩, _⟩ | ⟨o, its, n, h1, h2, _⟩, _⟩ := h
    · exact more (kit_of I rx (.base (.lst h1))) (ref rx)
    · exact more (kit_of I rx (.base (.frz h1))) (ref rx)
    · exact more (kit_of I rx (.kList h1 h2)) (ref rx)
  | tuple ds =>
    simp only [Rep] at h
    obtain ⟨a, xs, rfl, h0, _⟩ := h
    obtain (h1 | ⟨o, h1⟩) | ⟨o, its, n, h1, h2, _⟩ := h0.sq
    · exact more (kit_of I rx (.base (.tup h1))) (ref rx)
    · exact more (kit_of I rx (.fTuple h1)) (ref rx)
    · exact more (kit_of I rx (.kTuple h1 h2)) (ref rx)
  | dict kvs =>
    simp only [Rep] at h
    obtain ⟨a, xs, rfl, _, ⟨l, h1 | ⟨o, h1⟩, _⟩ | ⟨l, h1, _⟩, _⟩ := h
    · exact more (kit_of I rx (.base (.dK h1))) (ref rx)
    · exact more (kit_of I rx (.fDict h1)) (ref rx)
    · cases rx
      obtain ⟨_, _, xs, _, o, es, ep, ho, hx, _⟩ := dt_rd I.hok h1
      exact ⟨_, PySem.W.kitx_dict, ⟨o, ho, hx.1⟩, fun id z => nomatch z⟩
def isiOk (c : String) : Bool := ["int", "bool", "tuple", "list", "str", "dict"].contains c
theorem isi_kit (d : PyData) (c : String) (h : isiOk c = true) : kitB (tyD d) c = some (isiT (tyD d) c) := by
  unfold isiOk at h
  simp only [List.contains_cons, List.contains_nil, Bool.or_false, Bool.or_eq_true, beq_iff_eq] at h
  have all : ∀ t ∈ ["NoneType", "bool", "int", "str", "list", "tuple", "dict"], ∀ c ∈ ["int", "bool", "tuple", "list", "str", "dict"], kitB t c = some (isiT t c) := by decide +kernel
  refine all _ ?_ _ ?_
  · cases d <;> simp [tyD]
  · rcases h with h | h | h | h | h | h <;> simp [h]
/-- isinstance(e, T) -/
def mIsi (c : String) (m : M Opd) : M PyData := mUn (fun d => if isiOk c then some (.bool (isiT (tyD d) c)) else none) m
theorem ed_isi {ks : List Kd} {ps : List (Nat × V)} {e : Expr} {T x : Str} {c : String} {p p2 pos : Pos} {m : M Opd} (hx : x = "isinstance") (hg : Gl X x) (hm : X.mg x = none) (hgT : Gl X T) (hmT : X.mg T = none) (hvT : bootBuiltins T = some (.type c))
    (ha : RD X ks ps e m) (hnT : T ≠ "__name__" := by decide) (hdT : (T == ("__debug__" : Str)) = false := by decide)
    (he : starEach [e, .Name T p2] X.env = (false, eval e X.env) :: starEach [.Name T p2] X.env := by rfl) (hpl : (backTo pos (starEach [.Name T p2] X.env)).any (·.1) = false := by rfl)
    (he2 : starEach [.Name T p2] X.env = (false, eval (.Name T p2) X.env) :: starEach [] X.env := by rfl) : ED X ks ps (.Call (.Name x p) [e, .Name T p2] [] pos) (mIsi c m) := by
  subst hx
  have hc : CallR X (.builtin "isinstance") (fun xs H Q => ∃ O d v, xs = [v, .ty c] ∧ Rep X.K H O d v ∧ isiOk c = true ∧ Q (.bl (isiT (tyD d) c)) H) := by
    intro pins s σ H xs us Q I r h
    obtain ⟨O, d, v, rfl, hr, hk, q⟩ := h
    obtain ⟨u1, u2, rfl, r1, r2⟩ := vals2 r
    obtain rfl : u2 = Value.type c := r2
    obtain ⟨P, Z, pp, hx⟩ := Rep.kit I r1 hr
    exact PySem.W.kia_one Z I.kIn pp (kit_ty (isi_kit d c hk)) (hx _) fun tk => ⟨.bl (isiT (tyD d) c), H, I.tok tk, rfl, q⟩
  refine PE.imp (pe_callB hc hg hm (by decide +kernel) (pa_cons ha (pa_cons (pe_bltn (v := .ty c) hgT hmT hvT rfl hnT hdT) pa_nil he2) he) (by decide) (by decide) he hpl) fun σ H Q q => ?_
  obtain ⟨G, F, env, d, env', I, hm, q⟩ := q
  obtain ⟨ox, e1, h1, h2⟩ := bnd_some hm
  obtain ⟨rfl, dx, g1, g3, gi⟩ := rs1_some h2
  refine ⟨G, F, env, ox, env', I, h1, fun v F1 H1 S1 I1 r1 => ⟨_, dx, v, rfl, HoldsO.rep I1 r1 g1, ?_⟩⟩
  split at g3
  · rename_i hk
    cases g3
    exact ⟨hk, q _ F1 H1 S1 I1 rep_bl⟩
  · cases g3
end
end DL

/-! DLD: subscripts, slices; statements, loops, comprehensions. -/
namespace DL
open PySem PySem.Spec PyProof.Rows L2
section
variable {rk : Kd} {X : Cx} {ks : List Kd} {ps : List (Nat × V)} {a b c e o i : Expr} {es : List Expr} {pos pos' : Pos}

/-! ### subscripts -/
def itemD : PyData → PyData → Option PyData
  | .list ds, .int i => atI ds i
  | .tuple ds, .int i => atI ds i
  | .str z, .int i => if z.length ≤ sizeLine then (atI z.cps.toList i).map fun c => .str ⟨#[c]⟩ else none
  | _, _ => none
theorem RepA.at {K : PySem.W.Frag} {H : Hp} {O : Addr → Prop} {ds : List PyData} {xs : List V} {i : Int} {d : PyData} (h : RepA K H O ds xs) (e : atI ds i = some d) : ∃ x, atI xs i = some x ∧ Rep K H O d x := by
  unfold atI at e ⊢
  rw [← h.length]
  cases q : ixN ds.length i with
  | none => rw [q] at e; cases e
  | some j =>
    rw [q] at e
    exact h.get e
theorem ix_data : IxR X (fun x y H Q => ∃ O dx dy d, (∀ p, H p = none → ¬ O p) ∧ Rep X.K H O dx x ∧ Rep X.K H O dy y ∧ itemD dx dy = some d ∧ ∀ v H', Same H H' → Rep X.K H' O d v → Q v H') := by
  intro value slice pins s σ H x y v u Q I rx ry q hs
  obtain ⟨O, dx, dy, d, fr, r1, r2, e, q⟩ := q
  unfold itemD at e
  split at e
  · simp only [Rep] at r1 r2
    obtain ⟨p, vs, rfl, t1, a1⟩ := r1
    subst r2
    obtain ⟨w, hw, hr⟩ := a1.at e
    exact ix_list value slice pins s σ H _ _ v u Q I rx ry ⟨p, vs, _, w, rfl, rfl, t1.sq, hw, q w H (.refl H) hr⟩ hs
  · simp only [Rep] at r1 r2
    obtain ⟨p, vs, rfl, t1, a1⟩ := r1
    subst r2
    obtain ⟨w, hw, hr⟩ := a1.at e
    exact ix_tup value slice pins s σ H _ _ v u Q I rx ry ⟨p, vs, _, w, rfl, rfl, t1.sq, hw, q w H (.refl H) hr⟩ hs
  · split at e
    · rename_i hz
      obtain ⟨c, hc, rfl⟩ := Option.map_eq_some_iff.mp e
      simp only [Rep] at r1 r2
      subst r1; subst r2
      exact ix_str value slice pins s σ H _ _ v u Q I rx ry ⟨_, _, c, rfl, rfl, hz, hc, q _ H (.refl H) rep_str⟩ hs
    · cases e
  · cases e
theorem ed_ix {ma mb : M Opd} (ha : RD X ks ps a ma) (hb : RD X ks ps b mb) (hs : PlainIx b) : ED X ks ps (.Subscript a b pos) (mBin itemD ma mb) :=
  PE.imp (pe_ix ix_data ha hb hs) fun σ H Q q => red2 (fun x y H Q z => z) q

/-! ### slices -/
def cutD (ds : List PyData) (lo hi : Option Int) : List PyData := (ds.drop (HT.sIx ds.length 0 lo)).take (HT.sIx ds.length ds.length hi - HT.sIx ds.length 0 lo)
def sliceD (lo hi : Option Int) : PyData → Option PyData
  | .list ds => some (.list (cutD ds lo hi))
  | .tuple ds => some (.tuple (cutD ds lo hi))
  | _ => none
theorem RepA.cut {K : PySem.W.Frag} {H : Hp} {O : Addr → Prop} {ds : List PyData} {xs : List V} (lo hi : Option Int) (h : RepA K H O ds xs) : RepA K H O (cutD ds lo hi) (cutV xs lo hi) := by
  unfold cutD cutV
  rw [← h.length]
  exact (h.drop _).take _
theorem sl_data : SlR X (fun x lo hi H Q => ∃ O dx d, (∀ p, H p = none → ¬ O p) ∧ Rep X.K H O dx x ∧ sliceD lo hi dx = some d ∧ ∀ v H', Same H H' → Rep X.K H' O d v → Q v H') := by
  intro pins s σ H x v vl vu lo hi sl Q I rx hsl pl pu q
  obtain ⟨O, dx, d, fr, r1, e, q⟩ := q
  unfold sliceD at e
  split at e
  · cases e
    simp only [Rep] at r1
    obtain ⟨p, vs, rfl, t1, a1⟩ := r1
    refine sl_list pins s σ H _ v vl vu lo hi sl Q I rx hsl pl pu ⟨p, vs, rfl, t1.sq, fun l hl => ?_⟩
    have sm := same_upd (o := .lst (cutV vs lo hi)) hl
    refine q _ _ sm ?_
    simp only [Rep]
    exact ⟨l, _, rfl, LstAt.rd (.inl upd_same) (fr l hl), RepA.kp (Same.kp sm) (a1.cut lo hi)⟩
  · cases e
    have r1' := r1
    simp only [Rep] at r1
    obtain ⟨p, vs, rfl, t1, a1⟩ := r1
    refine sl_tupA pins s σ H _ v vl vu lo hi sl Q I rx hsl pl pu ⟨p, vs, rfl, t1.sq, fun hw => ?_, fun hw l hl => ?_⟩
    · refine q _ H (.refl H) ?_
      have : cutD (by assumption) lo hi = (by assumption) := by
        unfold cutD
        rw [a1.length, hw.1, hw.2, ← a1.length]
        simp
      rw [this]
      exact r1'
    · have sm := same_upd (o := .tup (cutV vs lo hi)) hl
      refine q _ _ sm ?_
      simp only [Rep]
      exact ⟨l, _, rfl, .of upd_same, RepA.kp (Same.kp sm) (a1.cut lo hi)⟩
  · cases e
/-- a part of a slice -/
abbrev PartD (X : Cx) (ks : List Kd) (ps : List (Nat × V)) (e : Option Expr) (m : M (Option Int)) : Prop :=
  PO X e (fun σ H Q => ∃ G F env d env', EI X.K ks ps G F σ H env ∧ m env = some (d, env') ∧ ∀ F' H', Stp F H F' H' → EI X.K ks ps G F' σ H' env' → Q d H')
theorem PO.imp {X : Cx} {e : Option Expr} {t t' : TO} (h : PO X e t) (w : ∀ σ H Q, t' σ H Q → t σ H Q) : PO X e t' := ⟨fun pins s σ H Q I q => h.run pins s σ H Q I (w σ H Q q)⟩
def mNoPart : M (Option Int) := ret none
def iOf : PyData → Option (Option Int)
  | .int i => some (some i)
  | _ => none
def mPart (m : M PyData) : M (Option Int) := bnd m fun d => lft (iOf d)
theorem pd_none : PartD X ks ps none mNoPart := PO.imp po_none fun σ H Q q => by
  obtain ⟨G, F, env, d, env', I, hm, q⟩ := q
  cases hm
  exact q F H .refl I
theorem pd_some {m : M PyData} (h : ED X ks ps e m) : PartD X ks ps (some e) (mPart m) := PO.imp (po_some h) fun σ H Q q => by
  obtain ⟨G, F, env, d, env', I, hm, q⟩ := q
  obtain ⟨x, e1, h1, h2⟩ := bnd_some hm
  obtain ⟨h2, rfl⟩ := lft_some h2
  refine ⟨G, F, env, x, env', I, h1, fun v F' H' S J r => ?_⟩
  cases x with
  | int i =>
    cases h2
    simp only [Rep] at r
    exact ⟨i, r, q F' H' S J⟩
  | _ => cases h2
def mSl (m : M Opd) (l h : M (Option Int)) : M PyData := bnd m fun o => bnd l fun lo => bnd h fun hi => rs1 (sliceD lo hi) o
theorem ed_sl {lo hi : Option Expr} {p2 : Pos} {m : M Opd} {l h : M (Option Int)} (ha : RD X ks ps a m) (hl : PartD X ks ps lo l) (hh : PartD X ks ps hi h) : ED X ks ps (.Subscript a (.Slice lo hi none p2) pos) (mSl m l h) :=
  PE.imp (pe_slice sl_data ha hl hh) fun σ H Q q => by
    obtain ⟨G, F, env, d, env', I, hm, q⟩ := q
    obtain ⟨ox, e1, h1, h2⟩ := bnd_some hm
    obtain ⟨l1, e2, h3, h4⟩ := bnd_some h2
    obtain ⟨u1, e3, h5, h6⟩ := bnd_some h4
    obtain ⟨rfl, dx, g1, g3, gi⟩ := rs1_some h6
    refine ⟨G, F, env, ox, e1, I, h1, fun v F1 H1 S1 I1 r1 => ⟨G, F1, e1, l1, e2, I1, h3, fun F2 H2 S2 I2 => ⟨G, F2, e2, u1, env', I2, h5, fun F3 H3 S3 I3 => ?_⟩⟩⟩
    refine ⟨_, dx, d, fresh_if I3, HoldsO.rep I3 ((r1.stp S2).stp S3) g1, g3, fun w H4 s4 r4 => ?_⟩
    exact q w F3 H4 (((S1.trans S2).trans S3).trans (.same s4)) (I3.same s4) (ifown gi r4)
/-- xs[::-1] -/
def revD : PyData → Option PyData
  | .list ds => some (.list ds.reverse)
  | _ => none
/-! ### what is new and one's own -/
def tF (K : PySem.W.Frag) (ks : List Kd) (ps : List (Nat × V)) (kd : Kd) (m : M PyData) : TE := fun σ H Q => ∃ G F env d env', EI K ks ps G F σ H env ∧ m env = some (d, env') ∧
  ∀ v F' H' Fr, Stp F H F' H' → EI K ks ps (fun a => G a ∨ a ∈ Fr) F' σ H' env' → OwnAt K H' (OO (fun a => G a ∨ a ∈ Fr) F') kd Fr d v → Fr.Nodup → (∀ a ∈ Fr, ¬ G a ∧ (a ∈ F.flatten ∨ H a = none)) → Q v H'
abbrev FD (X : Cx) (ks : List Kd) (ps : List (Nat × V)) (kd : Kd) (e : Expr) (m : M PyData) : Prop := PE X e (tF X.K ks ps kd m)
theorem noneG {G : Addr → Prop} : (fun a => G a ∨ a ∈ ([] : List Addr)) = G := by funext a; simp
theorem fd_frz {m : M PyData} (h : ED X ks ps e m) : FD X ks ps .frz e m := PE.imp h fun σ H Q q => by
  obtain ⟨G, F, env, d, env', I, hm, q⟩ := q
  refine ⟨G, F, env, d, env', I, hm, fun v F' H' S J r => q v F' H' [] S (by rw [noneG]; exact J) ⟨rfl, by rw [noneG]; exact r⟩ List.nodup_nil fun a ha => nomatch ha⟩

/-! ### blocks, statements -/
abbrev B := Ev → Option Out
def sSeq (m n : B) : B := fun e => match m e with
  | some (.nx e') => n e'
  | r => r
def sNx : B := fun e => some (.nx e)
def sBk : B := fun e => some (.bk e)
def sCt : B := fun e => some (.ct e)
theorem ss_nil : SsD X ks ps rk [] sNx := PSs.imp pss_nil fun D σ H q => by
  obtain ⟨G, F, env, out, I, hm, q⟩ := q
  cases hm
  exact q σ F H .refl I
theorem ss_cons {st : Stmt} {sts : List Stmt} {m n : B} (h1 : SD X ks ps rk st m) (h2 : SsD X ks ps rk sts n) : SsD X ks ps rk (st :: sts) (sSeq m n) := PSs.imp (pss_cons h1 h2) fun D σ H q => by
  obtain ⟨G, F, env, out, I, hm, q⟩ := q
  unfold sSeq at hm
  cases h : m env with
  | none => rw [h] at hm; cases hm
  | some o1 =>
    rw [h] at hm
    refine ⟨G, F, env, o1, I, h, ?_⟩
    cases o1 with
    | nx e1 =>
      dsimp only at hm ⊢
      intro σ' F' H' S J
      refine ⟨G, F', e1, out, J, hm, ?_⟩
      cases out with
      | nx e2 => exact fun σ2 F2 H2 S2 J2 => q σ2 F2 H2 (S.trans S2) J2
      | rt d e2 => exact fun v σ2 F2 H2 Fr S2 J2 r n hF => q v σ2 F2 H2 Fr (S.trans S2) J2 r n fun a ha => ⟨(hF a ha).1, S.nw (hF a ha).2⟩
      | bk e2 => exact fun σ2 F2 H2 S2 J2 => q σ2 F2 H2 (S.trans S2) J2
      | ct e2 => exact fun σ2 F2 H2 S2 J2 => q σ2 F2 H2 (S.trans S2) J2
    | rt d e1 => cases hm; exact q
    | bk e1 => cases hm; exact q
    | ct e1 => cases hm; exact q
theorem ss_one {st : Stmt} {m : B} (h1 : SD X ks ps rk st m) : SsD X ks ps rk [st] m := pss_one h1
def sExpr {α : Type} (m : M α) : B := fun e => match m e with
  | some (_, e') => some (.nx e')
  | none => none
theorem sd_expr {m : M PyData} (h : ED X ks ps e m) (hs : swapsWith e none pos.line X.env = pure false := by rfl) : SD X ks ps rk (.Expr e pos) (sExpr m) := PS.imp (ps_expr h hs) fun D σ H q => by
  obtain ⟨G, F, env, out, I, hm, q⟩ := q
  unfold sExpr at hm
  split at hm
  · rename_i d e' h1
    cases hm
    exact ⟨G, F, env, d, e', I, h1, fun v F' H' S J r => q σ F' H' S J⟩
  · cases hm
def sRet (m : M PyData) : B := fun e => match m e with
  | some (d, e') => some (.rt d e')
  | none => none
theorem sd_retF {m : M PyData} (h : FD X ks ps rk e m) : SD X ks ps rk (.Return (some e) pos) (sRet m) := PS.imp (ps_ret h) fun D σ H q => by
  obtain ⟨G, F, env, out, I, hm, q⟩ := q
  unfold sRet at hm
  split at hm
  · rename_i d e' h1
    cases hm
    exact ⟨G, F, env, d, e', I, h1, fun v F' H' Fr S J r n hF => q v σ F' H' Fr S J r n hF⟩
  · cases hm
theorem sd_ret {m : M PyData} (h : ED X ks ps e m) : SD X ks ps .frz (.Return (some e) pos) (sRet m) := sd_retF (fd_frz h)
def sIf (c : M Bool) (m n : B) : B := fun e => match c e with
  | some (true, e') => m e'
  | some (false, e') => n e'
  | none => none
theorem sd_if {m n : B} {t : M Bool} {sa sb : List Stmt} (hc : TD X ks ps c t) (ha : SsD X ks ps rk sa m) (hb : SsD X ks ps rk sb n) : SD X ks ps rk (.If c sa sb pos) (sIf t m n) := PS.imp (ps_if hc ha hb) fun D σ H q => by
  obtain ⟨G, F, env, out, I, hm, q⟩ := q
  have fin : ∀ {e1 : Ev} {F1 : List (List Addr)} {H1 : Hp} {k : B}, Stp F H F1 H1 → EI X.K ks ps G F1 σ H1 e1 → k e1 = some out → tS X.K ks ps rk k D σ H1 := fun {e1 F1 H1 k} S J hk => by
    refine ⟨G, F1, e1, out, J, hk, ?_⟩
    cases out with
    | nx e2 => exact fun σ2 F2 H2 S2 J2 => q σ2 F2 H2 (S.trans S2) J2
    | rt d e2 => exact fun v σ2 F2 H2 Fr S2 J2 r n hF => q v σ2 F2 H2 Fr (S.trans S2) J2 r n fun a ha => ⟨(hF a ha).1, S.nw (hF a ha).2⟩
    | bk e2 => exact fun σ2 F2 H2 S2 J2 => q σ2 F2 H2 (S.trans S2) J2
    | ct e2 => exact fun σ2 F2 H2 S2 J2 => q σ2 F2 H2 (S.trans S2) J2
  unfold sIf at hm
  split at hm
  · rename_i e' h1
    exact ⟨G, F, env, true, e', I, h1, fun F' H' S J => iteT (fin S J hm)⟩
  · rename_i e' h1
    exact ⟨G, F, env, false, e', I, h1, fun F' H' S J => iteF (fin S J hm)⟩
  · cases hm

/-! ### stores -/
/-- slot i is not owned: it takes any datum -/
theorem EI.set_frz {K : PySem.W.Frag} {G : Addr → Prop} {F : List (List Addr)} {σ : L2.St} {H : Hp} {env : Ev} (I : EI K ks ps G F σ H env) {i : Nat} (hk : ks[i]? = some .frz) (hp : ∀ p ∈ ps, p.1 ≠ i) {d : PyData} {v : V} (r : Rep K H (OO G F) d v) :
    EI K ks ps G F (σ.set i (some v)) H (env.set i (some d)) where
  lF := I.lF
  lE := by simpa using I.lE
  lS := by simpa using I.lS
  nd := I.nd
  tr := I.tr
  gt := I.gt
  sl := fun j d' kd h1 h2 => by
    have hi : i < ks.length := (List.getElem?_eq_some_iff.mp hk).1
    by_cases hj : j = i
    · subst hj
      rw [List.getElem?_set_self (by rw [I.lE]; exact hi)] at h1
      cases h1
      rw [hk] at h2; cases h2
      exact ⟨v, [], by rw [List.getElem?_set_self (by rw [I.lS]; exact hi)], I.fz _ hk, rfl, r⟩
    · rw [List.getElem?_set_ne (Ne.symm hj)] at h1
      obtain ⟨w, Fi, e1, e2, o⟩ := I.sl j d' kd h1 h2
      exact ⟨w, Fi, by rw [List.getElem?_set_ne (Ne.symm hj)]; exact e1, e2, o⟩
  pn := fun p hp' => by rw [List.getElem?_set_ne (Ne.symm (hp p hp'))]; exact I.pn p hp'
  fz := I.fz
/-- a target: what storing a datum does -/
abbrev St1 := PyData → Ev → Option Ev
def tG (K : PySem.W.Frag) (ks : List Kd) (ps : List (Nat × V)) (vs : List Nat) (m : St1) : TG := fun v σ H Q => ∃ G F env d env', EI K ks ps G F σ H env ∧ Rep K H (OO G F) d v ∧ m d env = some env' ∧ ∀ σ' F' H', wipe σ' vs = wipe σ vs → Stp F H F' H' → EI K ks ps G F' σ' H' env' → Q σ' H'
def tGs (K : PySem.W.Frag) (ks : List Kd) (ps : List (Nat × V)) (ws : List Nat) (m : List PyData → Ev → Option Ev) : TGs := fun vs σ H Q => ∃ G F env ds env', EI K ks ps G F σ H env ∧ RepA K H (OO G F) ds vs ∧ m ds env = some env' ∧ ∀ σ' F' H', wipe σ' ws = wipe σ ws → Stp F H F' H' → EI K ks ps G F' σ' H' env' → Q σ' H'
abbrev GD (X : Cx) (ks : List Kd) (ps : List (Nat × V)) (vs : List Nat) (tg : Expr) (m : St1) : Prop := PG X tg (tG X.K ks ps vs m)
abbrev GsD (X : Cx) (ks : List Kd) (ps : List (Nat × V)) (vs : List Nat) (ts : List Expr) (m : List PyData → Ev → Option Ev) : Prop := PGs X ts (tGs X.K ks ps vs m)
theorem PG.imp {tg : Expr} {t t' : TG} (h : PG X tg t) (w : ∀ v σ H Q, t' v σ H Q → t v σ H Q) : PG X tg t' := ⟨fun pins s σ H v u Q I r q => h.run pins s σ H v u Q I r (w v σ H Q q)⟩
theorem PGs.imp {ts : List Expr} {t t' : TGs} (h : PGs X ts t) (w : ∀ v σ H Q, t' v σ H Q → t v σ H Q) : PGs X ts t' := ⟨fun pins s σ H v u Q I r q => h.run pins s σ H v u Q I r (w v σ H Q q)⟩
def gNm (i : Nat) : St1 := fun d e => some (e.set i (some d))
def psOk (ps : List (Nat × V)) (i : Nat) : Bool := ps.all fun p => p.1 != i
theorem psOk_ne {i : Nat} (h : psOk ps i = true) : ∀ p ∈ ps, p.1 ≠ i := fun p hp e => by
  unfold psOk at h
  rw [List.all_eq_true] at h
  have := h p hp
  simp [e] at this
theorem wipe_set {σ : L2.St} {i : Nat} {o : Option V} : ∀ {vs : List Nat}, i ∈ vs → wipe (σ.set i o) vs = wipe σ vs
  | [], h => nomatch h
  | v :: vs, h => by
    unfold wipe
    by_cases hi : i ∈ vs
    · rw [wipe_set hi]
    · have hv : i = v := (List.mem_cons.mp h).resolve_right hi
      subst hv
      have out : ∀ (ws : List Nat) (τ : L2.St), i ∉ ws → wipe (τ.set i o) ws = (wipe τ ws).set i o := by
        intro ws
        induction ws with
        | nil => intro τ _; rfl
        | cons w ws ih =>
          intro τ hn
          unfold wipe
          rw [ih τ fun z => hn (List.mem_cons_of_mem _ z), List.set_comm _ _ (fun e => hn (by rw [e]; exact List.mem_cons_self))]
      rw [out vs σ hi, List.set_set]
theorem gd_name {vs : List Nat} {i : Nat} {x : Str} (hN : X.N.Nodup) (hi : X.N[i]? = some x) (hx : Loc X.env.scope x) (hk : ks[i]? = some .frz) (hp : psOk ps i = true) (hv : i ∈ vs)
    (hf : X.fn x = true ∨ X.env.scope.names.lookup x = some .local := by first | exact .inl rfl | exact .inr rfl | assumption) : GD X ks ps vs (.Name x pos) (gNm i) := PG.imp (pg_name hN hi hx hf) fun v σ H Q q => by
  obtain ⟨G, F, env, d, env', I, r, hm, q⟩ := q
  cases hm
  exact q _ F H (wipe_set hv) .refl (I.set_frz hk (psOk_ne hp) r)
def gNl : List PyData → Ev → Option Ev := fun ds e => match ds with
  | [] => some e
  | _ => none
def gCn (m : St1) (n : List PyData → Ev → Option Ev) : List PyData → Ev → Option Ev := fun ds e => match ds with
  | [] => none
  | d :: r => match m d e with
    | none => none
    | some e1 => n r e1
theorem gsd_nil {vs : List Nat} : GsD X ks ps vs [] gNl := PGs.imp pgs_nil fun v σ H Q q => by
  obtain ⟨G, F, env, ds, env', I, r, hm, q⟩ := q
  unfold gNl at hm
  split at hm
  · cases hm
    simp only [RepA] at r
    exact ⟨r, q σ F H rfl .refl I⟩
  · cases hm
theorem gsd_cons {vs : List Nat} {m : St1} {n : List PyData → Ev → Option Ev} (h1 : GD X ks ps vs e m) (h2 : GsD X ks ps vs es n)
    (hs : (assignEach (e :: es) X.env).map (·.2) = assign e X.env :: (assignEach es X.env).map (·.2) := by rfl) : GsD X ks ps vs (e :: es) (gCn m n) := PGs.imp (pgs_cons h1 h2 hs) fun v σ H Q q => by
  obtain ⟨G, F, env, ds, env', I, r, hm, q⟩ := q
  unfold gCn at hm
  split at hm
  · cases hm
  · rename_i d t
    split at hm
    · cases hm
    · rename_i e1 h1
      simp only [RepA] at r
      obtain ⟨x, xs, rfl, r1, r2⟩ := r
      exact ⟨x, xs, rfl, G, F, env, d, e1, I, r1, h1, fun σ1 F1 H1 w1 S1 I1 => ⟨G, F1, e1, t, env', I1, RepA.kp S1.kp r2, hm, fun σ2 F2 H2 w2 S2 I2 => q σ2 F2 H2 (w2.trans w1) (S1.trans S2) I2⟩⟩
def gTp (n : Nat) (m : List PyData → Ev → Option Ev) : St1 := fun d e => match d with
  | .tuple ds => if ds.length = n then m ds e else none
  | _ => none
theorem gd_tup {vs : List Nat} {k : Nat} {m : List PyData → Ev → Option Ev} {n : Nat} (hc : X.calm = true) (h : GsD X ks ps vs es m) (hn : (assignEach es X.env).length = n := by rfl) (hst : (assignEach es X.env).findIdx? (·.1) = none := by rfl) :
    GD X ks ps vs (.Tuple es k pos) (gTp n m) := PG.imp (pg_tup hc h hn hst) fun v σ H Q q => by
  obtain ⟨G, F, env, d, env', I, r, hm, q⟩ := q
  unfold gTp at hm
  split at hm
  · rename_i ds
    split at hm
    · rename_i hl
      simp only [Rep] at r
      obtain ⟨a, xs, rfl, t1, a1⟩ := r
      exact ⟨a, xs, rfl, t1.sq, by rw [← a1.length]; exact hl, G, F, env, ds, env', I, a1, hm, q⟩
    · cases hm
  · cases hm
def sAsg (m : M PyData) (g : St1) : B := fun e => match m e with
  | none => none
  | some (d, e1) => match g d e1 with
    | none => none
    | some e2 => some (.nx e2)
theorem sAsg_some {m : M PyData} {g : St1} {e : Ev} {out : Out} (h : sAsg m g e = some out) : ∃ d e1 e2, m e = some (d, e1) ∧ g d e1 = some e2 ∧ out = .nx e2 := by
  unfold sAsg at h
  split at h
  · cases h
  · rename_i d e1 h1
    split at h
    · cases h
    · rename_i e2 h2
      cases h
      exact ⟨d, e1, e2, h1, h2, rfl⟩
/-- name = e -/
theorem sd_set {i : Nat} {x : Str} {m : M PyData} (hN : X.N.Nodup) (hi : X.N[i]? = some x) (hx : Loc X.env.scope x) (hk : ks[i]? = some .frz) (hp : psOk ps i = true) (he : ED X ks ps e m) (hs : swapsWith e (some (.Name x pos')) pos.line X.env = pure false := by rfl)
    (hf : X.fn x = true ∨ X.env.scope.names.lookup x = some .local := by first | exact .inl rfl | exact .inr rfl | assumption) : SD X ks ps rk (.Assign [.Name x pos'] e pos) (sAsg m (gNm i)) := PS.imp (ps_set hN hi hx he hs hf) fun D σ H q => by
  obtain ⟨G, F, env, out, I, hm, q⟩ := q
  obtain ⟨d, e1, e2, h1, h2, rfl⟩ := sAsg_some hm
  cases h2
  exact ⟨G, F, env, d, e1, I, h1, fun v F1 H1 S1 I1 r => q _ F1 H1 S1 (I1.set_frz hk (psOk_ne hp) r)⟩
/-- name op= e -/
def sAug (i : Nat) (g : PyData → PyData → Option PyData) (m : M PyData) : B := fun e => match e[i]? with
  | some (some x) => match m e with
    | none => none
    | some (y, e1) => match g x y with
      | none => none
      | some z => some (.nx (e1.set i (some z)))
  | _ => none
/-! ### for -/
/-- the loop over the items -/
def loopB (g : St1) (body : B) : List PyData → Ev → Option Out
  | [], e => some (.nx e)
  | d :: r, e => match g d e with
    | none => none
    | some e1 => match body e1 with
      | some (.nx e2) => loopB g body r e2
      | some (.ct e2) => loopB g body r e2
      | some (.bk e2) => some (.nx e2)
      | some (.rt x e2) => some (.rt x e2)
      | none => none
/-- what a for walks: the items -/
def tI (K : PySem.W.Frag) (ks : List Kd) (ps : List (Nat × V)) (m : M (List PyData)) : TI := fun σ H R => ∃ G F env ds env', EI K ks ps G F σ H env ∧ m env = some (ds, env') ∧
  ∀ J F' H' (Gd : Hp → Prop) (Y : Nat → Hp → V → Hp → Prop), Stp F H F' H' → EI K ks ps G F' σ H' env' → Walk J ds.length Gd Y → (∀ F2 H2, Stp F' H' F2 H2 → Gd H2) →
    (∀ (G2 : Addr → Prop) i F2 H2 x H3 d, ds[i]? = some d → (∀ a, G2 a → G a ∨ H' a = none) → Stp F' H' F2 H2 → (∀ a, OO G2 F2 a → H2 a ≠ none) → Y i H2 x H3 → Same H2 H3 ∧ Rep K H3 (OO G2 F2) d x) → R J H'
/-- .. where more is kept from being held -/
theorem Stp.kp2 {G G2 : Addr → Prop} {F F' : List (List Addr)} {H H' : Hp} (s : Stp F H F' H') (h : ∀ a, G2 a → G a ∨ a ∈ F.flatten ∨ H a = none) : Kp (OO G F) H (OO G2 F') H' where
  keep := fun a o e n => ⟨s.keep a o e fun m => n (.inr m), fun z => by
    rcases z with z | z
    · rcases h a z with q | q | q
      · exact n (.inl q)
      · exact n (.inr q)
      · rw [q] at e; cases e
    · rcases s.new a z with q | q
      · exact n (.inr q)
      · rw [q] at e; cases e⟩
  tup := s.tup
  frz := s.frz
theorem EI.oo {K : PySem.W.Frag} {G : Addr → Prop} {F : List (List Addr)} {σ : L2.St} {H : Hp} {env : Ev} (I : EI K ks ps G F σ H env) : ∀ a, OO G F a → H a ≠ none := fun a z => by
  rcases z with z | z
  · exact I.gt a z
  · exact (I.tr a z).1
abbrev ID (X : Cx) (ks : List Kd) (ps : List (Nat × V)) (tg e : Expr) (m : M (List PyData)) : Prop := PI X tg e (tI X.K ks ps m)
theorem PI.imp {tg : Expr} {t t' : TI} (h : PI X tg e t) (w : ∀ σ H R, t' σ H R → t σ H R) : PI X tg e t' := ⟨fun pins s σ H R I q => h.run pins s σ H R I (w σ H R q)⟩
def sFor (m : M (List PyData)) (g : St1) (body : B) : B := fun e => match m e with
  | none => none
  | some (ds, e1) => loopB g body ds e1
theorem sd_for {vs : List Nat} {tg it : Expr} {body : List Stmt} {m : M (List PyData)} {g : St1} {mb : B} (hp : PassesOwn (model X.prog X.w) X.A X.env X.xe) (hc : X.calm = true) (hi : ID X ks ps tg it m) (hg : GD X ks ps vs tg g) (hb : SsD X ks ps rk body mb)
    (hs : ∀ x, foldedSetIterable it X.env x = pure x := by intro _; rfl) : SD X ks ps rk (.For tg it body [] pos) (sFor m g mb) := PS.imp (ps_for hp hc hi hg hb hs) fun D σ H q => by
  obtain ⟨G, F, env, out, I, hm, q⟩ := q
  unfold sFor at hm
  split at hm
  · cases hm
  · rename_i ds e1 h1
    refine ⟨G, F, env, ds, e1, I, h1, fun J F1 H1 Gd Y S1 I1 W hG hY => ?_⟩
    refine for_it W (fun i σ' H' => ∃ F2 e2, Stp F1 H1 F2 H' ∧ EI X.K ks ps G F2 σ' H' e2 ∧ loopB g mb (ds.drop i) e2 = some out) ⟨F1, e1, .refl, I1, by simpa using hm⟩ (fun i σ' H' hi' ⟨F2, e2, S2, I2, _⟩ => hG F2 H' S2) (fun i x σ' H2 H3 hi' ⟨F2, e2, S2, I2, hl⟩ y => ?_) (fun σ' H' ⟨F2, e2, S2, I2, hl⟩ => ?_)
    · have hd : ds.drop i = ds[i] :: ds.drop (i + 1) := List.drop_eq_getElem_cons hi'
      obtain ⟨sm, rx⟩ := hY G i F2 H2 x H3 _ (List.getElem?_eq_getElem hi') (fun a h => .inl h) S2 I2.oo y
      rw [hd] at hl
      unfold loopB at hl
      split at hl
      · cases hl
      · rename_i e3 h3
        refine ⟨G, F2, e2, ds[i], e3, I2.same sm, rx, h3, fun σ4 F4 H4 _ S4 I4 => ?_⟩
        have S14 := (S2.trans (.same sm)).trans S4
        split at hl
        · rename_i e5 h5
          exact ⟨G, F4, e3, _, I4, h5, fun σ5 F5 H5 S5 I5 => ⟨F5, e5, S14.trans S5, I5, hl⟩⟩
        · rename_i e5 h5
          exact ⟨G, F4, e3, _, I4, h5, fun σ5 F5 H5 S5 I5 => ⟨F5, e5, S14.trans S5, I5, hl⟩⟩
        · rename_i e5 h5
          cases hl
          exact ⟨G, F4, e3, _, I4, h5, fun σ5 F5 H5 S5 I5 => q σ5 F5 H5 ((S1.trans S14).trans S5) I5⟩
        · rename_i z e5 h5
          cases hl
          exact ⟨G, F4, e3, _, I4, h5, fun v σ5 F5 H5 Fr S5 I5 r5 n hF => q v σ5 F5 H5 Fr ((S1.trans S14).trans S5) I5 r5 n fun a ha => ⟨(hF a ha).1, (S1.trans S14).nw (hF a ha).2⟩⟩
        · cases hl
    · rw [List.drop_length] at hl
      cases hl
      exact q σ' F2 H' (S1.trans S2) I2
/-- over a list, a tuple -/
def mIt (m : M PyData) : M (List PyData) := bnd m fun d => lft (itsOf d)
/-- what is walked is a list or a tuple -/
theorem pi_seq {tg l : Expr} {tl : TE} (hl : PE X l tl) : PI X tg l (fun σ H R => tl σ H fun x H1 => (∃ a, x = .ref a ∧ (∃ xs, SqL X.K H1 a xs) ∧ R (Itl X.K a) H1) ∨ (∃ a, x = .ref a ∧ (∃ xs, SqT X.K H1 a xs) ∧ R (Itt X.K a) H1)) := by
  constructor
  intro pins s σ H R I h
  refine thn (hl.run pins s σ H _ I h) ?_
  rintro v s1 ⟨x, H1, I1, r1, q1⟩
  have own : ∀ b ∈ [s1.heap.objs.size], FpOk X pins H1 b := fun b hb => by
    rw [List.mem_singleton] at hb
    rw [hb]
    exact I1.fpOk (Nat.le_refl _) I1.fresh
  rcases q1 with ⟨a, rfl, ⟨xs, hq⟩, q⟩ | ⟨a, rfl, ⟨xs, hq⟩, q⟩
  · cases r1
    obtain ⟨its, rv, p, hz⟩ := I1.list hq
    exact wpAny_pyIter_list p.isList ⟨s1.heap.objs.size, [s1.heap.objs.size], _, _, H1, rfl, I1.kept (t' := s1.toks) fun b o e => Heap.get?_push_of_some _ e, turn_list a _, ⟨_, Heap.get?_push_size _ rfl, rfl, rfl⟩, own, q⟩
  · cases r1
    obtain ⟨its, rv, p, hz⟩ := I1.tuple hq
    exact wpAny_pyIter_tuple (show s1.heap.IsTuple a its.toArray from p) ⟨s1.heap.objs.size, [s1.heap.objs.size], _, _, H1, rfl, I1.kept (t' := s1.toks) fun b o e => Heap.get?_push_of_some _ e, turn_tuple a _, ⟨_, Heap.get?_push_size _ rfl, rfl, rfl⟩, own, q⟩
theorem id_seq {tg : Expr} {m : M PyData} (h : ED X ks ps e m) : ID X ks ps tg e (mIt m) := PI.imp (pi_seq h) fun σ H R q => by
  obtain ⟨G, F, env, ds, env', I, hm, q⟩ := q
  obtain ⟨d, e1, h1, h2⟩ := bnd_some hm
  obtain ⟨h2, rfl⟩ := lft_some h2
  refine ⟨G, F, env, _, _, I, h1, fun v F' H' S J r => ?_⟩
  unfold itsOf at h2
  split at h2
  · cases h2
    simp only [Rep] at r
    obtain ⟨a, xs, rfl, t1, a1⟩ := r
    refine .inl ⟨a, rfl, ⟨xs, t1.sq⟩, q _ F' H' _ _ S J (by rw [a1.length]; exact walk_list (xs := xs)) (fun F2 H2 S2 => (t1.kp (S2.kp (G := G))).sq) (fun G2 i F2 H2 x H3 d hd hg S2 _ y => ?_)⟩
    obtain ⟨rfl, hx⟩ := y
    obtain ⟨x', e', r'⟩ := a1.get hd
    rw [hx] at e'; cases e'
    exact ⟨.refl _, Rep.kp (S2.kp2 fun a z => (hg a z).imp id .inr) r'⟩
  · cases h2
    simp only [Rep] at r
    obtain ⟨a, xs, rfl, t1, a1⟩ := r
    refine .inr ⟨a, rfl, ⟨xs, t1.sq⟩, q _ F' H' _ _ S J (by rw [a1.length]; exact walk_tup (xs := xs)) (fun F2 H2 S2 => SqT.kp (S2.kp (G := G)) t1.sq) (fun G2 i F2 H2 x H3 d hd hg S2 _ y => ?_)⟩
    obtain ⟨rfl, hx⟩ := y
    obtain ⟨x', e', r'⟩ := a1.get hd
    rw [hx] at e'; cases e'
    exact ⟨.refl _, Rep.kp (S2.kp2 fun a z => (hg a z).imp id .inr) r'⟩
  · cases h2
/-- ranges -/
def rngL (lo : Int) (n : Nat) : List PyData := (List.range n).map fun (k : Nat) => PyData.int (lo + (k : Int))
def rng62 (i : Int) : Bool := decide (-(2 ^ 62) ≤ i) && decide (i < 2 ^ 62)
def rg1 : List PyData → Option (List PyData)
  | [.int j] => if rng62 j then some (rngL 0 j.toNat) else none
  | _ => none
def rg2 : List PyData → Option (List PyData)
  | [.int i, .int j] => if rng62 i && rng62 j then some (rngL i (j - i).toNat) else none
  | _ => none
def mRng (g : List PyData → Option (List PyData)) (m : M (List Opd)) : M (List PyData) := bnd m fun os => lft (match allVal os with
  | none => none
  | some ds => g ds)
theorem rngL_get {lo : Int} {n i : Nat} {d : PyData} (h : (rngL lo n)[i]? = some d) : d = .int (lo + (i : Int)) := by
  unfold rngL at h
  rw [List.getElem?_map] at h
  by_cases hi : i < n
  · rw [List.getElem?_range hi] at h
    cases h; rfl
  · rw [List.getElem?_eq_none (by simp; omega)] at h
    cases h
theorem id_rng {K : PySem.W.Frag} {G : Addr → Prop} {F : List (List Addr)} {σ : L2.St} {H : Hp} {env : Ev} {R : It → Hp → Prop} {lo : Int} {n : Nat} {F' : List (List Addr)} {H' : Hp}
    (q : ∀ J F' H' (Gd : Hp → Prop) (Y : Nat → Hp → V → Hp → Prop), Stp F H F' H' → EI K ks ps G F' σ H' env → Walk J (rngL lo n).length Gd Y → (∀ F2 H2, Stp F' H' F2 H2 → Gd H2) →
      (∀ (G2 : Addr → Prop) i F2 H2 x H3 d, (rngL lo n)[i]? = some d → (∀ a, G2 a → G a ∨ H' a = none) → Stp F' H' F2 H2 → (∀ a, OO G2 F2 a → H2 a ≠ none) → Y i H2 x H3 → Same H2 H3 ∧ Rep K H3 (OO G2 F2) d x) → R J H')
    (S : Stp F H F' H') (J : EI K ks ps G F' σ H' env) : R (Itr lo n) H' := by
  refine q _ F' H' _ _ S J (by rw [show (rngL lo n).length = n by simp [rngL]]; exact walk_range) (fun _ _ _ => trivial) (fun G2 i F2 H2 x H3 d hd _ S2 _ y => ?_)
  obtain ⟨rfl, rfl⟩ := y
  rw [rngL_get hd]
  exact ⟨.refl _, rep_int⟩
theorem id_range1 {tg : Expr} {p : Pos} {m : M (List Opd)} (hg : Gl X "range") (hm : X.mg "range" = none) (ha : AoD X ks ps [a] m) (hs : starEach [a] X.env = [(false, eval a X.env)] := by rfl) : ID X ks ps tg (.Call (.Name "range" p) [a] [] pos) (mRng rg1 m) :=
  PI.imp (pi_range1 hg hm ha hs) fun σ H R q => by
    obtain ⟨G, F, env, ds, env', I, hm, q⟩ := q
    obtain ⟨os, e1, h1, h2⟩ := bnd_some hm
    obtain ⟨h2, rfl⟩ := lft_some h2
    split at h2
    · cases h2
    · rename_i dv hv
      refine ⟨G, F, env, os, _, I, h1, fun vs F' H' S J r => ?_⟩
      have ra := HoldsA.vals r hv
      unfold rg1 at h2
      split at h2
      · split at h2
        · cases h2
          rename_i hb
          unfold rng62 at hb
          simp only [Bool.and_eq_true, decide_eq_true_eq] at hb
          obtain ⟨x, rfl, r1⟩ := repA1 ra
          simp only [Rep] at r1
          subst r1
          exact ⟨_, rfl, hb.1, hb.2, id_rng q S J⟩
        · cases h2
      · cases h2
theorem id_range2 {tg : Expr} {p : Pos} {m : M (List Opd)} (hg : Gl X "range") (hm : X.mg "range" = none) (ha : AoD X ks ps [a, b] m) (hs : starEach [a, b] X.env = [(false, eval a X.env), (false, eval b X.env)] := by rfl)
    (hs2 : starEach [b] X.env = [(false, eval b X.env)] := by rfl) : ID X ks ps tg (.Call (.Name "range" p) [a, b] [] pos) (mRng rg2 m) :=
  PI.imp (pi_range2 hg hm ha hs hs2) fun σ H R q => by
    obtain ⟨G, F, env, ds, env', I, hm, q⟩ := q
    obtain ⟨os, e1, h1, h2⟩ := bnd_some hm
    obtain ⟨h2, rfl⟩ := lft_some h2
    split at h2
    · cases h2
    · rename_i dv hv
      refine ⟨G, F, env, os, _, I, h1, fun vs F' H' S J r => ?_⟩
      have ra := HoldsA.vals r hv
      unfold rg2 at h2
      split at h2
      · split at h2
        · cases h2
          rename_i hb
          unfold rng62 at hb
          simp only [Bool.and_eq_true, decide_eq_true_eq] at hb
          obtain ⟨x, y, rfl, r1, r2⟩ := repA2 ra
          simp only [Rep] at r1 r2
          subst r1; subst r2
          exact ⟨_, _, rfl, ⟨hb.1.1, hb.1.2, hb.2.1, hb.2.2⟩, id_rng q S J⟩
        · cases h2
      · cases h2

/-! ### while: so many turns at most -/
def whileB (c : M Bool) (body : B) : Nat → Ev → Option Out
  | 0, _ => none
  | n + 1, e => match c e with
    | none => none
    | some (false, e1) => some (.nx e1)
    | some (true, e1) => match body e1 with
      | some (.nx e2) => whileB c body n e2
      | some (.ct e2) => whileB c body n e2
      | some (.bk e2) => some (.nx e2)
      | some (.rt x e2) => some (.rt x e2)
      | none => none
def sWhile (fuel : Ev → Nat) (c : M Bool) (body : B) : B := fun e => whileB c body (fuel e) e
theorem sd_while {t : M Bool} {mb : B} {body : List Stmt} {fuel : Ev → Nat} (hp : PassesOwn (model X.prog X.w) X.A X.env X.xe) (hc : TD X ks ps c t) (hb : SsD X ks ps rk body mb) : SD X ks ps rk (.While c body [] pos) (sWhile fuel t mb) := PS.imp (ps_while hp hc hb) fun D σ H q => by
  obtain ⟨G, F, env, out, I, hm, q⟩ := q
  refine ⟨fun n σ' H' => ∃ F2 e2, Stp F H F2 H' ∧ EI X.K ks ps G F2 σ' H' e2 ∧ whileB t mb n e2 = some out, ⟨_, F, env, .refl, I, hm⟩, fun n σ' H' ⟨F2, e2, S2, I2, hl⟩ => ?_⟩
  cases n with
  | zero => cases hl
  | succ n =>
    unfold whileB at hl
    split at hl
    · cases hl
    · rename_i e3 h3
      cases hl
      exact ⟨G, F2, e2, false, e3, I2, h3, fun F3 H3 S3 I3 => iteF (q σ' F3 H3 (S2.trans S3) I3)⟩
    · rename_i e3 h3
      refine ⟨G, F2, e2, true, e3, I2, h3, fun F3 H3 S3 I3 => iteT ⟨fun σ4 H4 => ∃ F4 e4, Stp F H F4 H4 ∧ EI X.K ks ps G F4 σ4 H4 e4 ∧ whileB t mb n e4 = some out, fun σ4 H4 ⟨F4, e4, S4, I4, h4⟩ => ⟨n, Nat.lt_succ_self n, F4, e4, S4, I4, h4⟩, ?_⟩⟩
      have S23 := S2.trans S3
      split at hl
      · rename_i e5 h5
        exact ⟨G, F3, e3, _, I3, h5, fun σ5 F5 H5 S5 I5 => ⟨F5, e5, S23.trans S5, I5, hl⟩⟩
      · rename_i e5 h5
        exact ⟨G, F3, e3, _, I3, h5, fun σ5 F5 H5 S5 I5 => ⟨F5, e5, S23.trans S5, I5, hl⟩⟩
      · rename_i e5 h5
        cases hl
        exact ⟨G, F3, e3, _, I3, h5, fun σ5 F5 H5 S5 I5 => q σ5 F5 H5 (S23.trans S5) I5⟩
      · rename_i z e5 h5
        cases hl
        exact ⟨G, F3, e3, _, I3, h5, fun v σ5 F5 H5 Fr S5 I5 r5 n hF => q v σ5 F5 H5 Fr (S23.trans S5) I5 r5 n fun a ha => ⟨(hF a ha).1, S23.nw (hF a ha).2⟩⟩
      · cases hl
end
end DL

/-! DLE: comprehensions. -/
namespace DL
open PySem PySem.Spec PyProof.Rows L2
section
variable {rk : Kd} {X : Cx} {ks : List Kd} {ps : List (Nat × V)} {a b c e o i : Expr} {es : List Expr} {pos pos' : Pos}

def wipeE (e : Ev) : List Nat → Ev
  | [] => e
  | v :: vs => (wipeE e vs).set v none
def backE (e0 : Ev) (e : Ev) : List Nat → Ev
  | [] => e
  | v :: vs => (backE e0 e vs).set v (e0.getD v none)
theorem wipeE_len (e : Ev) : ∀ vs, (wipeE e vs).length = e.length
  | [] => rfl
  | v :: vs => by unfold wipeE; rw [List.length_set]; exact wipeE_len e vs
theorem backE_len (e0 e : Ev) : ∀ vs, (backE e0 e vs).length = e.length
  | [] => rfl
  | v :: vs => by unfold backE; rw [List.length_set]; exact backE_len e0 e vs
theorem wipeE_some {e : Ev} {i : Nat} {d : PyData} : ∀ {vs : List Nat}, (wipeE e vs)[i]? = some (some d) → e[i]? = some (some d) ∧ i ∉ vs
  | [], h => ⟨h, fun z => nomatch z⟩
  | v :: vs, h => by
    unfold wipeE at h
    rw [List.getElem?_set] at h
    by_cases hv : v = i
    · subst hv
      simp only [if_pos] at h
      split at h
      · exact absurd (Option.some.inj h) (fun z => nomatch z)
      · cases h
    · rw [if_neg hv] at h
      obtain ⟨h1, h2⟩ := wipeE_some h
      exact ⟨h1, fun z => (List.mem_cons.mp z).elim (fun z => hv z.symm) h2⟩
theorem backE_some {e0 e : Ev} {i : Nat} {d : PyData} : ∀ {vs : List Nat}, (backE e0 e vs)[i]? = some (some d) → (i ∈ vs ∧ e0[i]? = some (some d)) ∨ (i ∉ vs ∧ e[i]? = some (some d))
  | [], h => .inr ⟨(fun z => nomatch z), h⟩
  | v :: vs, h => by
    unfold backE at h
    rw [List.getElem?_set] at h
    by_cases hv : v = i
    · subst hv
      simp only [if_pos] at h
      split at h
      · have hd : e0.getD v none = some d := Option.some.inj h
        refine .inl ⟨List.mem_cons_self, ?_⟩
        rw [List.getD_eq_getElem?_getD] at hd
        cases q : e0[v]? with
        | none => rw [q] at hd; cases hd
        | some x => rw [q] at hd; exact congrArg some hd
      · cases h
    · rw [if_neg hv] at h
      rcases backE_some h with ⟨h1, h2⟩ | ⟨h1, h2⟩
      · exact .inl ⟨List.mem_cons_of_mem _ h1, h2⟩
      · exact .inr ⟨fun z => (List.mem_cons.mp z).elim (fun z => hv z.symm) h1, h2⟩

/-- the elements of a comprehension, the names of its own wiped at each turn's end -/
def compL (g : St1) (t : M Bool) (m : M PyData) (vs : List Nat) : List PyData → Ev → Option (List PyData × Ev)
  | [], e => some ([], e)
  | d :: r, e => match g d e with
    | none => none
    | some e1 => match t e1 with
      | none => none
      | some (false, e2) => compL g t m vs r (wipeE e2 vs)
      | some (true, e2) => match m e2 with
        | none => none
        | some (y, e3) => match compL g t m vs r (wipeE e3 vs) with
          | none => none
          | some (ys, e4) => some (y :: ys, e4)
def mComp (it : M (List PyData)) (g : St1) (t : M Bool) (m : M PyData) (vs : List Nat) : M PyData := fun e => match it e with
  | none => none
  | some (ds, e1) => if ds.length ≤ 1000000 then match compL g t m vs ds (wipeE e1 vs) with
    | none => none
    | some (ys, e2) => some (.list ys, backE e1 e2 vs)
    else none
def mYes : M Bool := ret true
theorem EI.wiped {K : PySem.W.Frag} {G : Addr → Prop} {F : List (List Addr)} {σ : L2.St} {H : Hp} {env : Ev} {vs : List Nat} (I : EI K ks ps G F σ H env) (hp : ∀ i ∈ vs, psOk ps i = true) : EI K ks ps G F (wipe σ vs) H (wipeE env vs) where
  lF := I.lF
  lE := by rw [wipeE_len]; exact I.lE
  lS := by rw [wipe_length]; exact I.lS
  nd := I.nd
  tr := I.tr
  gt := I.gt
  sl := fun j d kd h1 h2 => by
    obtain ⟨h1, hn⟩ := wipeE_some h1
    obtain ⟨v, Fi, e1, e2, o⟩ := I.sl j d kd h1 h2
    exact ⟨v, Fi, by rw [wipe_out hn]; exact e1, e2, o⟩
  pn := fun p hp' => by
    have hn : p.1 ∉ vs := fun z => psOk_ne (hp _ z) p hp' rfl
    rw [wipe_out hn]
    exact I.pn p hp'
  fz := I.fz
theorem wipe_wipe (σ : L2.St) (vs : List Nat) : wipe (wipe σ vs) vs = wipe σ vs := by
  refine List.ext_getElem? fun i => ?_
  by_cases hi : i ∈ vs
  · have aux : ∀ (ws : List Nat) (τ : L2.St), i ∈ ws → (wipe τ ws)[i]? = if i < τ.length then some none else none := by
      intro ws
      induction ws with
      | nil => intro τ h; exact nomatch h
      | cons w ws ih =>
        intro τ h
        unfold wipe
        rw [List.getElem?_set]
        by_cases hw : w = i
        · subst hw; simp [wipe_length]
        · rw [if_neg hw]; exact ih τ ((List.mem_cons.mp h).resolve_left fun z => hw z.symm)
    rw [aux vs _ hi, aux vs _ hi, wipe_length]
  · rw [wipe_out hi]
/-- another slot list that is the same but for wiped slots -/
theorem EI.wipe2 {K : PySem.W.Frag} {G : Addr → Prop} {F : List (List Addr)} {σ σ2 : L2.St} {H : Hp} {env : Ev} {vs : List Nat} (I : EI K ks ps G F σ2 H env) (h : wipe σ2 vs = wipe σ vs) (hp : ∀ i ∈ vs, psOk ps i = true) : EI K ks ps G F (wipe σ vs) H (wipeE env vs) := by
  have := I.wiped hp
  rw [h] at this
  exact this
theorem EI.moreG {K : PySem.W.Frag} {G G' : Addr → Prop} {F : List (List Addr)} {σ : L2.St} {H H' : Hp} {env : Ev} (I : EI K ks ps G F σ H env) (sm : Same H H') (h : ∀ a, G' a → G a ∨ H a = none) (h2 : ∀ a, G' a → H' a ≠ none) : EI K ks ps G' F σ H' env where
  lF := I.lF
  lE := I.lE
  lS := I.lS
  nd := I.nd
  tr := fun a ha => by
    obtain ⟨t1, t2⟩ := I.tr a ha
    exact ⟨(Stp.same (F := F) sm).dom a t1, fun z => (h a z).elim t2 t1⟩
  gt := h2
  sl := fun j d kd h1 h3 => by
    obtain ⟨v, Fi, e1, e2, o⟩ := I.sl j d kd h1 h3
    exact ⟨v, Fi, e1, e2, o.kp ((Stp.same (F := F) sm).kp2 fun a z => (h a z).imp id .inr) fun a _ ob e => sm a ob e⟩
  pn := I.pn
  fz := I.fz
theorem EI.lessG {K : PySem.W.Frag} {G G' : Addr → Prop} {F : List (List Addr)} {σ : L2.St} {H : Hp} {env : Ev} (J : EI K ks ps G' F σ H env) (hG : ∀ a, G a → G' a) : EI K ks ps G F σ H env where
  lF := J.lF
  lE := J.lE
  lS := J.lS
  nd := J.nd
  tr := fun a ha => ⟨(J.tr a ha).1, fun z => (J.tr a ha).2 (hG a z)⟩
  gt := fun a ha => J.gt a (hG a ha)
  sl := fun j d kd h1 h2 => by
    obtain ⟨v, Fi, e1, e2, o⟩ := J.sl j d kd h1 h2
    exact ⟨v, Fi, e1, e2, o.kp (Kp.less fun a z => z.elim (fun z => .inl (hG a z)) .inr) fun a _ ob e => e⟩
  pn := J.pn
  fz := J.fz
theorem EI.back {K : PySem.W.Frag} {G G' : Addr → Prop} {F F' : List (List Addr)} {σ : L2.St} {H H' : Hp} {e0 e : Ev} {vs : List Nat} (I : EI K ks ps G F σ H e0) (J : EI K ks ps G' F' (wipe σ vs) H' e) (S : Stp F H F' H') (hG : ∀ a, G' a → G a ∨ H a = none) (hk : ∀ i ∈ vs, ks[i]? = some .frz) (hp : ∀ i ∈ vs, psOk ps i = true) :
    EI K ks ps G' F' σ H' (backE e0 e vs) where
  lF := J.lF
  lE := by rw [backE_len]; exact J.lE
  lS := I.lS
  nd := J.nd
  tr := J.tr
  gt := J.gt
  sl := fun j d kd h1 h2 => by
    rcases backE_some h1 with ⟨hj, h1⟩ | ⟨hj, h1⟩
    · have := hk j hj
      rw [h2] at this
      cases this
      obtain ⟨v, e1, r⟩ := I.at_frz h1 h2
      exact ⟨v, [], e1, J.fz j h2, rfl, Rep.kp (S.kp2 fun a z => (hG a z).imp id .inr) r⟩
    · obtain ⟨v, Fi, e1, e2, o⟩ := J.sl j d kd h1 h2
      rw [wipe_out hj] at e1
      exact ⟨v, Fi, e1, e2, o⟩
  pn := I.pn
  fz := J.fz
theorem Stp.put {F F' : List (List Addr)} {H H' : Hp} {D : Addr} {o : HO} (s : Stp F H F' H') (h : H D = none) : Stp F H F' (upd H' D o) where
  keep := fun a u e n => by rw [upd_ne (ne_of_none e h)]; exact s.keep a u e n
  dom := fun a e => by
    by_cases ha : a = D
    · subst ha; exact absurd h e
    · rw [upd_ne ha]; exact s.dom a e
  tup := fun a xs e => by rw [upd_ne (ne_of_none e h)]; exact s.tup a xs e
  frz := fun a u v e => by rw [upd_ne (ne_of_none e h)]; exact s.frz a u v e
  new := s.new
def plainO : HO → Prop
  | .tup _ => False
  | .frz _ _ => False
  | _ => True
/-- an address that is kept from being held is written -/
theorem Kp.put {O : Addr → Prop} {H : Hp} {D : Addr} {u0 o : HO} (h : O D) (hD : H D = some u0) (hu0 : plainO u0 := by trivial) : Kp O H O (upd H D o) where
  keep := fun a u e n => by
    have ha : a ≠ D := fun z => n (by rw [z]; exact h)
    exact ⟨by rw [upd_ne ha]; exact e, n⟩
  tup := fun a ys e => by
    have ha : a ≠ D := fun z => by rw [z, hD] at e; cases e; exact hu0
    rw [upd_ne ha]; exact e
  frz := fun a u v e => by
    have ha : a ≠ D := fun z => by rw [z, hD] at e; cases e; exact hu0
    rw [upd_ne ha]; exact e
theorem EI.put {K : PySem.W.Frag} {G : Addr → Prop} {F : List (List Addr)} {σ : L2.St} {H : Hp} {env : Ev} {D : Addr} {u0 o : HO} (I : EI K ks ps G F σ H env) (h : G D) (hD : H D = some u0) (hu0 : plainO u0 := by trivial) : EI K ks ps G F σ (upd H D o) env where
  lF := I.lF
  lE := I.lE
  lS := I.lS
  nd := I.nd
  tr := fun a ha => by
    obtain ⟨t1, t2⟩ := I.tr a ha
    have hn : a ≠ D := fun z => t2 (by rw [z]; exact h)
    exact ⟨by rw [upd_ne hn]; exact t1, t2⟩
  gt := fun a ha => by
    by_cases hn : a = D
    · subst hn; rw [upd_same]; simp
    · rw [upd_ne hn]; exact I.gt a ha
  sl := fun j d kd h1 h2 => by
    obtain ⟨v, Fi, e1, e2, o'⟩ := I.sl j d kd h1 h2
    refine ⟨v, Fi, e1, e2, o'.kp (Kp.put (.inl h) hD hu0) fun a ha ob e => ?_⟩
    have hn : a ≠ D := fun z => by
      have hm : a ∈ F.flatten := List.mem_flatten.mpr ⟨Fi, List.mem_of_getElem? e2, ha⟩
      exact (I.tr a hm).2 (by rw [z]; exact h)
    rw [upd_ne hn]; exact e
  pn := I.pn
  fz := I.fz

section
variable {G : Addr → Prop} {F : List (List Addr)} {σ : L2.St} {H : Hp} {env e1 e2 : Ev} {mi : M (List PyData)} {g : St1} {t : M Bool} {m : M PyData} {vs : List Nat} {ds ys : List PyData} {Q : VK}
theorem comp_core (I : EI X.K ks ps G F σ H env) (hl : ds.length ≤ 1000000) (h2 : compL g t m vs ds (wipeE e1 vs) = some (ys, e2)) (hk : ∀ i ∈ vs, ks[i]? = some .frz) (hp : ∀ i ∈ vs, psOk ps i = true)
    (q : ∀ D xs F' H', Stp F H F' H' → EI X.K ks ps (fun a => G a ∨ a = D) F' σ H' (backE e1 e2 vs) → H D = none → H' D = some (.lst xs) → RepA X.K H' (OO (fun a => G a ∨ a = D) F') ys xs → ¬ OO G F' D → Q (.ref D) H') {J : It} {F1 : List (List Addr)} {H1 : Hp} {Gd : Hp → Prop} {Y : Nat → Hp → V → Hp → Prop} (S1 : Stp F H F1 H1) (I1 : EI X.K ks ps G F1 σ H1 e1) (W : Walk J ds.length Gd Y) (hG : ∀ F2 H2, Stp F1 H1 F2 H2 → Gd H2)
    (hY : ∀ (G2 : Addr → Prop) i F2 H2 x H3 d, ds[i]? = some d → (∀ a, G2 a → G a ∨ H1 a = none) → Stp F1 H1 F2 H2 → (∀ a, OO G2 F2 a → H2 a ≠ none) → Y i H2 x H3 → Same H2 H3 ∧ Rep X.K H3 (OO G2 F2) d x) {D : Addr} (hD : H1 D = none) :
    ∃ W : Nat → Nat → Hp → Prop, (∃ m, W 0 m (upd H1 D (.lst []))) ∧ ∀ i m' H, W i m' H →
      (J.stop i H ∧ Q (.ref D) H) ∨ (J.go i H ∧ ∃ Nx : Hp → Prop, (∀ H', Nx H' → ∃ m2, m2 < m' ∧ W (i + 1) m2 H') ∧ ∀ x H', J.yld i H x H' → (tG X.K ks ps vs g) x (wipe σ vs) H' fun σ2 H2 => wipe σ2 vs = wipe σ vs ∧ (tT X.K ks ps t) σ2 H2 fun b H3 =>
        if b = true then (tD X.K ks ps m) σ2 H3 fun y H4 => ∃ acc, H4 D = some (.lst acc) ∧ acc.length < sizeLine ∧ Nx (upd H4 D (.lst (acc ++ [y]))) else Nx H3) := by
  let G' : Addr → Prop := fun a => G a ∨ a = D
  have hG' : ∀ a, G' a → G a ∨ H1 a = none := fun a z => z.elim .inl fun z => .inr (by rw [z]; exact hD)
  have sm0 : Same H1 (upd H1 D (.lst [])) := same_upd hD
  have I0 : EI X.K ks ps G' F1 (wipe σ vs) (upd H1 D (.lst [])) (wipeE e1 vs) := (I1.wiped hp).moreG sm0 hG' fun a z => by
    rcases z with z | z
    · exact (Stp.same (F := F1) sm0).dom a (I1.gt a z)
    · rw [z, upd_same]; simp
  have line : ∀ n : Nat, n ≤ 1000000 → n < sizeLine := fun n hn => Nat.lt_of_le_of_lt hn (by rw [sizeLine_eq]; decide)
  refine lc_it W (fun i H2 => ∃ F2 e3 acc accd rest, Stp F1 H1 F2 H2 ∧ EI X.K ks ps G' F2 (wipe σ vs) H2 e3 ∧ H2 D = some (.lst acc) ∧ RepA X.K H2 (OO G' F2) accd acc ∧ compL g t m vs (ds.drop i) e3 = some (rest, e2) ∧ accd ++ rest = ys ∧ acc.length ≤ i)
    ⟨F1, wipeE e1 vs, [], [], ys, Stp.refl.put hD, I0, upd_same, .nil, by simpa using h2, rfl, Nat.le_refl _⟩ (fun i H2 hi ⟨F2, e3, acc, accd, rest, S2, _⟩ => hG F2 H2 S2) (fun i x H2 H3 hi ⟨F2, e3, acc, accd, rest, S2, I2, eD, ra, hc, ea, hn⟩ y => ?_) (fun H2 ⟨F2, e3, acc, accd, rest, S2, I2, eD, ra, hc, ea, hn⟩ => ?_)
  · have hd : ds.drop i = ds[i] :: ds.drop (i + 1) := List.drop_eq_getElem_cons hi
    obtain ⟨sm, rx⟩ := hY G' i F2 H2 x H3 _ (List.getElem?_eq_getElem hi) hG' S2 I2.oo y
    rw [hd] at hc
    unfold compL at hc
    split at hc
    · cases hc
    · rename_i e4 h4
      refine ⟨G', F2, e3, ds[i], e4, I2.same sm, rx, h4, fun σ4 F4 H4 w4 S4 I4 => ⟨?_, ?_⟩⟩
      · rw [w4]
        exact wipe_wipe σ vs
      have S24 : Stp F2 H2 F4 H4 := (Stp.same sm).trans S4
      have ndD : ∀ {F5 : List (List Addr)} {σ5 : L2.St} {H5 : Hp} {e5 : Ev}, EI X.K ks ps G' F5 σ5 H5 e5 → D ∉ F5.flatten := fun J z => (J.tr D z).2 (.inr rfl)
      have wσ : wipe σ4 vs = wipe σ vs := w4.trans (wipe_wipe σ vs)
      split at hc
      · cases hc
      · rename_i e5 h5
        refine ⟨G', F4, e4, false, e5, I4, h5, fun F5 H5 S5 I5 => iteF ?_⟩
        have S25 := S24.trans S5
        exact ⟨F5, wipeE e5 vs, acc, accd, rest, S2.trans S25, I5.wipe2 wσ hp, S25.keep D _ eD (ndD I2), RepA.kp S25.kp ra, hc, ea, by omega⟩
      · rename_i e5 h5
        split at hc
        · cases hc
        · rename_i z e6 h6
          split at hc
          · cases hc
          · rename_i zs e7 h7
            cases hc
            refine ⟨G', F4, e4, true, e5, I4, h5, fun F5 H5 S5 I5 => iteT ⟨G', F5, e5, z, e6, I5, h6, fun v F6 H6 S6 I6 r6 => ?_⟩⟩
            have S26 := (S24.trans S5).trans S6
            have eD6 : H6 D = some (.lst acc) := S26.keep D _ eD (ndD I2)
            have hGD : OO G' F6 D := .inl (.inr rfl)
            refine ⟨acc, eD6, line _ (by have := List.length_drop (i := i) (l := ds); omega), F6, wipeE e6 vs, acc ++ [v], accd ++ [z], zs, (S2.trans S26).put hD, (I6.wipe2 wσ hp).put (.inr rfl) eD6, upd_same, ?_, h7, by rw [List.append_assoc]; exact ea, by rw [List.length_append]; simp only [List.length_cons, List.length_nil]; omega⟩
            exact (RepA.kp (Kp.put hGD eD6) (RepA.kp S26.kp ra)).append (.cons (Rep.kp (Kp.put hGD eD6) r6) .nil)
  · rw [List.drop_length] at hc
    unfold compL at hc
    cases hc
    rw [List.append_nil] at ea
    subst ea
    have hDn : H D = none := by
      cases z : H D with
      | none => rfl
      | some o => exact absurd hD (S1.dom D (by rw [z]; simp))
    exact q D acc F2 H2 (S1.trans S2) (I1.back I2 S2 hG' hk hp) hDn eD ra fun z => z.elim (fun z => I1.gt D z hD) fun z => (I2.tr D z).2 (.inr rfl)
end
theorem comp_read (I : EI X.K ks ps G F σ H env) (h1 : mi env = some (ds, e1)) (hl : ds.length ≤ 1000000) (h2 : compL g t m vs ds (wipeE e1 vs) = some (ys, e2)) (hk : ∀ i ∈ vs, ks[i]? = some .frz) (hp : ∀ i ∈ vs, psOk ps i = true)
    (q : ∀ D xs F' H', Stp F H F' H' → EI X.K ks ps (fun a => G a ∨ a = D) F' σ H' (backE e1 e2 vs) → H D = none → H' D = some (.lst xs) → RepA X.K H' (OO (fun a => G a ∨ a = D) F') ys xs → ¬ OO G F' D → Q (.ref D) H') :
    tLc (tI X.K ks ps mi) (tG X.K ks ps vs g) (tT X.K ks ps t) (tD X.K ks ps m) vs σ H Q :=
  ⟨G, F, env, ds, e1, I, h1, fun J F1 H1 Gd Y S1 I1 W hG hY D hD => comp_core I hl h2 hk hp q S1 I1 W hG hY hD⟩
theorem mComp_some {it : M (List PyData)} {g : St1} {t : M Bool} {m : M PyData} {vs : List Nat} {e e' : Ev} {d : PyData} (h : mComp it g t m vs e = some (d, e')) : ∃ ds e1 ys e2, it e = some (ds, e1) ∧ ds.length ≤ 1000000 ∧ compL g t m vs ds (wipeE e1 vs) = some (ys, e2) ∧ d = .list ys ∧ e' = backE e1 e2 vs := by
  unfold mComp at h
  split at h
  · cases h
  · rename_i ds e1 h1
    split at h
    · rename_i hl
      split at h
      · cases h
      · rename_i ys e2 h2
        cases h
        exact ⟨ds, e1, ys, e2, h1, hl, h2, rfl, rfl⟩
    · cases h
def frzAll (ks : List Kd) (ps : List (Nat × V)) (vs : List Nat) : Bool := vs.all fun i => decide (ks[i]? = some .frz) && psOk ps i
theorem frzAll_k {vs : List Nat} (h : frzAll ks ps vs = true) : (∀ i ∈ vs, ks[i]? = some .frz) ∧ ∀ i ∈ vs, psOk ps i = true := by
  unfold frzAll at h
  rw [List.all_eq_true] at h
  exact ⟨fun i hi => by have := h i hi; rw [Bool.and_eq_true, decide_eq_true_eq] at this; exact this.1, fun i hi => by have := h i hi; rw [Bool.and_eq_true] at this; exact this.2⟩
theorem ed_comp {elt tg it : Expr} {ifs : List Expr} {scope : Scope} {own : List (Str × Nat)} {mi : M (List PyData)} {g : St1} {t : M Bool} {m : M PyData} (hc : X.calm = true) (hN : X.N.Nodup) (hi : ID X ks ps tg it mi) (ok : BlkOk X.N X.env.scope scope own)
    (hg : ∀ (s : Shared) (H : Hp) (C : Addr) (cl : List (Str × Addr)) (fp : List Addr), GD (X.blk s H scope (compEnvC scope cl C X.env) fp) ks ps (own.map (·.2)) tg g)
    (ht : ∀ (s : Shared) (H : Hp) (C : Addr) (cl : List (Str × Addr)) (fp : List Addr), PTs (X.blk s H scope (compEnvC scope cl C X.env) fp) ifs (tT X.K ks ps t))
    (he : ∀ (s : Shared) (H : Hp) (C : Addr) (cl : List (Str × Addr)) (fp : List Addr), ED (X.blk s H scope (compEnvC scope cl C X.env) fp) ks ps elt m)
    (hp : frzAll ks ps (own.map (·.2)) = true)
    (hs : ∀ x, foldedSetIterable it X.env x = pure x := by intro _; rfl) : ED X ks ps (.ListComp elt [⟨tg, it, ifs, 0⟩] scope pos) (mComp mi g t m (own.map (·.2))) :=
  PE.imp (pe_lc hc hN hi ok hg ht he hs) fun σ H Q q => by
    obtain ⟨G, F, env, d, env', I, hm, q⟩ := q
    obtain ⟨ds, e1, ys, e2, h1, hl, h2, rfl, rfl⟩ := mComp_some hm
    obtain ⟨hk, hp⟩ := frzAll_k hp
    refine comp_read I h1 hl h2 hk hp fun D xs F' H' S J hD eD ra nO => q _ F' H' S (J.lessG fun _ z => .inl z) ?_
    simp only [Rep]
    exact ⟨D, xs, rfl, LstAt.rd (.inl eD) nO, RepA.kp (Kp.less fun a z => z.elim (fun z => .inl (.inl z)) .inr) ra⟩
theorem ptd_nil : PTs X [] (tT X.K ks ps mYes) := ⟨fun pins s σ H Q I q => by
  obtain ⟨G, F, env, b, env', J, hm, q⟩ := q
  cases hm
  exact pts_nil.run pins s σ H Q I (q F H .refl J)⟩
theorem ptd_one {t : M Bool} (h : TD X ks ps c t) : PTs X [c] (tT X.K ks ps t) := pts_one h
end
end DL

/-! DLF: defs as functions of data; their calls. -/
namespace DL
open PySem PySem.Spec PyProof.Rows L2

/-- a def's promise where no repr is under way -/
structure FnG (P : Program) (w : World) (K : PySem.W.Frag) (mg : Str → Option Value) (base : Heap) (CX : CXT) (k : Nat) (f : Addr) (fd : FuncData) (ps : List Str) (sp : Sp) : Prop where
  len : ∀ vs H Q E, sp vs H Q E → vs.length = ps.length
  run : ∀ (A : Around) (outer : List Env) (s : Shared) (H : Hp) (args : Args) (us : List Value) (vs : List V) (Q : VK) (E : XK), Room k A → A.guards = some [] →
    Env0 P w K mg base A outer s H → BindsTo s fd args (ps.zip us) → Vals vs us → sp vs H Q E → codeAny (model P w) A (.call (.ref f) args) (CR CX outer P w H s Q E) s
section
variable {P : Program} {w : World} {K : PySem.W.Frag} {mg : Str → Option Value} {base : Heap} {CX : CXT} {j k : Nat} {f : Addr} {fd : FuncData} {ps : List Str} {sp : Sp}
theorem FnG.up (F : FnG P w K mg base CX j f fd ps sp) (h : j ≤ k) : FnG P w K mg base CX k f fd ps sp where
  len := F.len
  run := fun A outer s H args us vs Q E hr hg e0 hb hv hs => F.run A outer s H args us vs Q E (hr.mono h) hg e0 hb hv hs
theorem FnG.weak {sp' : Sp} (F : FnG P w K mg base CX k f fd ps sp) (h : ∀ vs H Q E, sp' vs H Q E → sp vs H Q E) : FnG P w K mg base CX k f fd ps sp' where
  len := fun vs H Q E q => F.len vs H Q E (h _ _ _ _ q)
  run := fun A outer s H args us vs Q E hr hg e0 hb hv hs => F.run A outer s H args us vs Q E hr hg e0 hb hv (h _ _ _ _ hs)
/-- by the body -/
theorem FnG.of_body {x qual : Str} {st : Stmt} {N : List Str} (F : Fun K x qual st f fd) (S : FnScope N ps (defScope st)) (len : ∀ vs H Q E, sp vs H Q E → vs.length = ps.length)
    (body : ∀ (cdv : Value) (A : Around) (outer : List Env) (s : Shared) (H : Hp) (vs : List V) (Q : VK) (E : XK), Room k (A.deeper (envOfC qual (defScope st) s.heap.objs.size f cdv)) → A.guards = some [] → sp vs H Q E →
      ∃ t, PSs (cxOf CX P w K mg base N qual (defScope st) f cdv A outer s H E) (defBody st) t ∧ t { nx := fun _ H' => Q .non H', rt := Q } (start N vs) H) : FnG P w K mg base CX (k + 1) f fd ps sp := by
  obtain ⟨oc, od, kV, doc, pm, an, cdv, ct, osl, efd, lk, hcd⟩ := F.ex
  subst efd
  constructor
  · exact len
  intro A outer s H args us vs Q E room hg e0 bind rel hsp
  have inK : K.In s.heap := e0.mod.kin.keeps fun b o e => (e0.bs b o e).1
  have nol : s.heap.NoLimit := e0.mod.nolimit.keeps fun b o e => (e0.bs b o e).1
  have kinds : ∀ y ∈ ps.zip us, (defScope st).names.lookup y.1 = some .local ∨ ((defScope st).names.lookup y.1 = some .cell ∧ ((cellsFrom (s.heap.objs.size + 1) (defScope st).names []).lookup y.1).isSome = true) := by
    rintro ⟨n, v⟩ hy
    rcases S.par n (List.of_mem_zip hy).1 with q | q
    · exact Or.inl q
    · exact Or.inr ⟨q, PySem.W.cellsFrom_some _ _ _ (Or.inl q)⟩
  refine codeAny_call_function room.depth (inK _ _ lk) rfl S.co S.gen rfl (PySem.W.codeRec_of inK hcd) (bind _ _ _ _ (wpAny_newFunctionEnv_cells S.kind kinds ?_))
  intro env he s1 x
  subst he
  refine ⟨nol.keeps x.toInCall.keep, codeAny_func ?_⟩
  obtain ⟨t, ht, hq⟩ := body cdv A outer s H vs Q E (room.deeper _) hg hsp
  have I := inv_start (CX := CX) (E := E) S room.hd e0 (len _ _ _ _ hsp) rel x
  refine wpAny_mono (ht.run [] s1 (start N vs) H _ I hq) (fun fl s' hs => ?_) fun e s' hs => hs
  cases fl with
  | ret u =>
    obtain ⟨v, σ', H', J, rv, q⟩ := hs
    exact ⟨v, H', J.os, J.bare, J.base, J.hok, rv, q⟩
  | next =>
    obtain ⟨σ', H', J, q⟩ := hs
    exact ⟨V.non, H', J.os, J.bare, J.base, J.hok, (show Value.none = Value.none from rfl), q⟩
  | brk => exact (hs.elim fun _ h => h.elim fun _ h => h.2).elim
  | cont => exact (hs.elim fun _ h => h.elim fun _ h => h.2).elim
end
section
variable {X : Cx} {CX : CXT} {k : Nat} {f : Addr} {fd : FuncData} {ps : List Str} {sp : Sp} {E : XK} {x : Str} {p pos : Pos} {e : Expr} {es : List Expr} {t : TA}
theorem FnG.at {pins : List (Addr × Obj)} {σ : L2.St} {H : Hp} {s : Shared} {Q : VK} {us : List Value} {vs : List V} (F : FnG X.prog X.w X.K X.mg X.base CX k f fd ps sp) (hr : Room k X.A) (hg : X.A.guards = some []) (hb : Binds X.K fd ps []) (hx : Passes CX X E)
    (I : Inv X pins σ H s) (r : Vals vs us) (h : sp vs H Q E) : wpAny (model X.prog X.w) X.A (call (.ref f) us) (EP X pins σ Q) X.xe s := by
  have hl : us.length = ps.length := by rw [← r.length]; exact F.len _ _ _ _ h
  have hbt : BindsTo s fd ⟨us, []⟩ (ps.zip us) := by
    have := hb s us I.kIn (by rw [List.append_nil]; exact hl)
    rwa [List.append_nil] at this
  refine wpAny_call (codeAny_mono (F.run X.A X.stack s H ⟨us, []⟩ us vs Q E hr hg I.env0 hbt r h) ?_)
  intro res s' hq
  match res, hq with
  | .error e, hq => exact hx pins σ H s e s' I hq
  | .ok (.ret u), hq => exact I.after hq
  | .ok .next, hq => exact False.elim hq
  | .ok .brk, hq => exact False.elim hq
  | .ok .cont, hq => exact False.elim hq
theorem pg_call (F : FnG X.prog X.w X.K X.mg X.base CX k f fd ps sp) (hr : Room k X.A) (hgd : X.A.guards = some []) (hg : Gl X x) (hm : X.mg x = some (.ref f)) (hk : PySem.W.keepIn X.K (.ref f) = true) (hb : Binds X.K fd ps []) (hx : Passes CX X E)
    (ha : PA X (e :: es) t) (hdb : (x == ("__debug__" : Str)) = false := by decide) (he : starEach (e :: es) X.env = (false, eval e X.env) :: starEach es X.env := by rfl) (hpl : (backTo pos (starEach es X.env)).any (·.1) = false := by rfl) :
    PE X (.Call (.Name x p) (e :: es) [] pos) (fun σ H Q => t σ H fun vs H1 => sp vs H1 Q E) := by
  constructor
  intro pins s σ H Q I h
  refine wpAny_Call_Name_kw (ld_glob I hg hm (PySem.W.callWith_K (h₀ := X.base) I.ok.mod.kin hk (thn (ha.run pos pins s σ H _ I h) ?_) he hpl) hdb)
  rintro us s1 ⟨vs, H1, I1, r, q⟩
  exact ⟨I1.kIn, F.at hr hgd hb hx I1 r q⟩
end

/-! ### promises over data -/
/-- the parameters' kinds pk; what comes back is of the kind rk; mf: from the parameters' data to what comes back and the parameters' data behind -/
def spD (K : PySem.W.Frag) (pk : List Kd) (rk : Kd) (mf : List PyData → Option (PyData × List PyData)) : Sp := fun vs H Q _ => vs.length = pk.length ∧ ∃ G F ds d outs, EI K pk [] G F (vs.map some) H (ds.map some) ∧ mf ds = some (d, outs) ∧
  ∀ v F' H' Fr, Stp F H F' H' → EI K pk [] (fun a => G a ∨ a ∈ Fr) F' (vs.map some) H' (outs.map some) → OwnAt K H' (OO (fun a => G a ∨ a ∈ Fr) F') rk Fr d v → Fr.Nodup → (∀ a ∈ Fr, ¬ G a ∧ (a ∈ F.flatten ∨ H a = none)) → Q v H'
/-- a def that keeps a promise over data -/
def FnD (P : Program) (w : World) (K : PySem.W.Frag) (mg : Str → Option Value) (base : Heap) (k : Nat) (x : Str) (pk : List Kd) (rk : Kd) (mf : List PyData → Option (PyData × List PyData)) : Prop :=
  ∃ f fd ps, FnG P w K mg base CX0 k f fd ps (spD K pk rk mf) ∧ mg x = some (.ref f) ∧ PySem.W.keepIn K (.ref f) = true ∧ Binds K fd ps []
theorem FnD.up {P : Program} {w : World} {K : PySem.W.Frag} {mg : Str → Option Value} {base : Heap} {j k : Nat} {x : Str} {pk : List Kd} {rk : Kd} {mf : List PyData → Option (PyData × List PyData)} (F : FnD P w K mg base j x pk rk mf) (h : j ≤ k) : FnD P w K mg base k x pk rk mf := by
  obtain ⟨f, fd, ps, h1, h2, h3, h4⟩ := F
  exact ⟨f, fd, ps, h1.up h, h2, h3, h4⟩
/-- a weaker function: where mf' tells, mf tells the same -/
theorem FnD.weak {P : Program} {w : World} {K : PySem.W.Frag} {mg : Str → Option Value} {base : Heap} {k : Nat} {x : Str} {pk : List Kd} {rk : Kd} {mf mf' : List PyData → Option (PyData × List PyData)} (F : FnD P w K mg base k x pk rk mf) (h : ∀ ds r, mf' ds = some r → mf ds = some r) : FnD P w K mg base k x pk rk mf' := by
  obtain ⟨f, fd, ps, h1, h2, h3, h4⟩ := F
  refine ⟨f, fd, ps, h1.weak fun vs H Q E q => ?_, h2, h3, h4⟩
  obtain ⟨hl, G, F, ds, d, outs, I, hm, q⟩ := q
  exact ⟨hl, G, F, ds, d, outs, I, h _ _ hm, q⟩

/-- the parameters' data behind a def: what isn't owned is as it was -/
def outsOf : List Kd → List PyData → Ev → Option (List PyData)
  | [], [], _ => some []
  | .frz :: ks, d :: ds, _ :: e => (outsOf ks ds e).map (d :: ·)
  | .pt :: ks, d :: ds, _ :: e => (outsOf ks ds e).map (d :: ·)
  | _ :: ks, _ :: ds, some y :: e => (outsOf ks ds e).map (y :: ·)
  | _, _, _ => none
def finB (pk : List Kd) (ds : List PyData) (d : PyData) (e : Ev) : Option (PyData × List PyData) := (outsOf pk ds e).map fun outs => (d, outs)
/-- the def as a function of data: n names in all -/
def mDef (rk : Kd) (pk : List Kd) (n : Nat) (mb : B) (ds : List PyData) : Option (PyData × List PyData) :=
  match mb (ds.map some ++ List.replicate (n - ds.length) none) with
  | some (.rt d e) => finB pk ds d e
  | some (.nx e) => if rk = .frz then finB pk ds .none e else none
  | _ => none
theorem outsOf_get : ∀ {pk : List Kd} {ds : List PyData} {e : Ev} {outs : List PyData}, outsOf pk ds e = some outs → outs.length = pk.length ∧ ds.length = pk.length ∧ ∀ (i : Nat) d kd, outs[i]? = some d → pk[i]? = some kd → ((kd = .frz ∨ kd = .pt) ∧ ds[i]? = some d) ∨ (kd ≠ .frz ∧ kd ≠ .pt ∧ e[i]? = some (some d))
  | [], [], _, outs, h => by
    unfold outsOf at h
    cases h
    exact ⟨rfl, rfl, fun i d kd h => by simp at h⟩
  | [], _ :: _, _, _, h => by unfold outsOf at h; cases h
  | k :: pk, [], _, _, h => by cases k <;> (unfold outsOf at h; cases h)
  | k :: pk, d :: ds, [], _, h => by cases k <;> (unfold outsOf at h; cases h)
  | k :: pk, d :: ds, y :: e, outs, h => by
    by_cases hk : k = .frz ∨ k = .pt
    · have h' : outsOf (k :: pk) (d :: ds) (y :: e) = (outsOf pk ds e).map (d :: ·) := by
        rcases hk with rfl | rfl <;> rfl
      rw [h'] at h
      obtain ⟨os, h1, rfl⟩ := Option.map_eq_some_iff.mp h
      obtain ⟨l1, l2, g⟩ := outsOf_get h1
      refine ⟨by simp [l1], by simp [l2], fun i d' kd e1 e2 => ?_⟩
      cases i with
      | zero => simp at e1 e2; subst e1; subst e2; exact .inl ⟨hk, rfl⟩
      | succ i => simpa using g i d' kd (by simpa using e1) (by simpa using e2)
    · have hk1 : k ≠ .frz := fun z => hk (.inl z)
      have hk2 : k ≠ .pt := fun z => hk (.inr z)
      cases y with
      | none => cases k <;> first | exact absurd rfl hk1 | exact absurd rfl hk2 | (unfold outsOf at h; cases h)
      | some z =>
        have h' : outsOf (k :: pk) (d :: ds) (some z :: e) = (outsOf pk ds e).map (z :: ·) := by
          cases k <;> first | exact absurd rfl hk1 | exact absurd rfl hk2 | rfl
        rw [h'] at h
        obtain ⟨os, h1, rfl⟩ := Option.map_eq_some_iff.mp h
        obtain ⟨l1, l2, g⟩ := outsOf_get h1
        refine ⟨by simp [l1], by simp [l2], fun i d' kd e1 e2 => ?_⟩
        cases i with
        | zero => simp at e1 e2; subst e1; subst e2; exact .inr ⟨hk1, hk2, rfl⟩
        | succ i => simpa using g i d' kd (by simpa using e1) (by simpa using e2)
/-- what the known tuples among the parameters own: nothing -/
def clr (pk : List Kd) (F : List (List Addr)) : List (List Addr) := List.zipWith (fun k Fi => if k = .pt then [] else Fi) pk F
theorem clr_at {pk : List Kd} {F : List (List Addr)} {i : Nat} {Fi : List Addr} (h : (clr pk F)[i]? = some Fi) : ∃ k F0, pk[i]? = some k ∧ F[i]? = some F0 ∧ Fi = if k = .pt then [] else F0 := by
  unfold clr at h
  rw [List.getElem?_zipWith] at h
  cases h1 : pk[i]? with
  | none => rw [h1] at h; cases h
  | some k =>
    cases h2 : F[i]? with
    | none => rw [h1, h2] at h; cases h
    | some F0 =>
      rw [h1, h2] at h
      cases h
      exact ⟨k, F0, rfl, rfl, rfl⟩
theorem clr_of {pk : List Kd} {F : List (List Addr)} {i : Nat} {k : Kd} {F0 : List Addr} (h1 : pk[i]? = some k) (h2 : F[i]? = some F0) : (clr pk F)[i]? = some (if k = .pt then [] else F0) := by
  unfold clr
  rw [List.getElem?_zipWith, h1, h2]
/-- what the own parameters hold stays in their slots -/
def pinsOf (own : List Nat) (vs : List V) : List (Nat × V) := own.filterMap fun i => (vs[i]?).map fun v => (i, v)

section
variable {P : Program} {w : World} {K : PySem.W.Frag} {mg : Str → Option Value} {base : Heap} {k : Nat} {f : Addr} {fd : FuncData}
theorem flat_pad {F : List (List Addr)} {n : Nat} {a : Addr} : a ∈ (F ++ List.replicate n []).flatten ↔ a ∈ F.flatten := by
  rw [List.flatten_append, List.mem_append]
  constructor
  · rintro (h | h)
    · exact h
    · obtain ⟨l, h1, h2⟩ := List.mem_flatten.mp h
      rw [List.mem_replicate] at h1
      rw [h1.2] at h2
      cases h2
  · exact .inl
theorem EI.start {ks : List Kd} {ps : List (Nat × V)} {pk : List Kd} {G : Addr → Prop} {F : List (List Addr)} {H : Hp} {vs : List V} {ds : List PyData} {n : Nat} {N : List Str} (I : EI K pk [] G F (vs.map some) H (ds.map some)) (hn : N.length = n) (hks : ks.length = n) (htk : ks.take pk.length = pk)
    (hps : ∀ p ∈ ps, vs[p.1]? = some p.2) : EI K ks ps G (F ++ List.replicate (n - ds.length) []) (start N vs) H (ds.map some ++ List.replicate (n - ds.length) none) := by
  have lF := I.lF
  have lE : ds.length = pk.length := by have := I.lE; simpa using this
  have lS : vs.length = pk.length := by have := I.lS; simpa using this
  have hle : pk.length ≤ n := by have := congrArg List.length htk; rw [List.length_take] at this; omega
  have kget : ∀ {i : Nat} {kd : Kd}, ks[i]? = some kd → i < pk.length → pk[i]? = some kd := fun {i kd} h hi => by
    rw [← htk, List.getElem?_take, if_pos hi]; exact h
  refine ⟨by simp; omega, by simp; omega, by unfold L2.start; simp; omega, ⟨fun i Fi e => ?_, fun i j Fi Fj a e1 e2 m1 m2 => ?_⟩, fun a ha => I.tr a (flat_pad.mp ha), I.gt, fun i d kd h1 h2 => ?_, fun p hp => ?_, fun i h => ?_⟩
  · by_cases hi : i < F.length
    · rw [List.getElem?_append_left hi] at e
      exact I.nd.own i Fi e
    · rw [List.getElem?_append_right (by omega), List.getElem?_replicate] at e
      split at e
      · cases e; exact List.nodup_nil
      · cases e
  · have at_ : ∀ {i : Nat} {Fi : List Addr}, (F ++ List.replicate (n - ds.length) [])[i]? = some Fi → a ∈ Fi → F[i]? = some Fi := fun {i Fi} e m => by
      by_cases hi : i < F.length
      · rwa [List.getElem?_append_left hi] at e
      · rw [List.getElem?_append_right (by omega), List.getElem?_replicate] at e
        split at e
        · cases e; cases m
        · cases e
    exact I.nd.apart i j Fi Fj a (at_ e1 m1) (at_ e2 m2) m1 m2
  · have hi : i < ds.length := by
      by_cases hi : i < ds.length
      · exact hi
      · rw [List.getElem?_append_right (by simp; omega), List.getElem?_replicate] at h1
        split at h1 <;> first | exact nomatch (Option.some.inj h1) | exact nomatch h1
    rw [List.getElem?_append_left (by simpa using hi)] at h1
    obtain ⟨v, Fi, e1, e2, o⟩ := I.sl i d kd h1 (kget h2 (by omega))
    refine ⟨v, Fi, ?_, by rw [List.getElem?_append_left (by omega)]; exact e2, o.kp (Kp.less fun a z => z.elim .inl fun z => .inr (flat_pad.mp z)) fun a _ ob e => e⟩
    unfold L2.start
    rw [List.getElem?_append_left (by simp; omega)]
    exact e1
  · have := hps p hp
    unfold L2.start
    rw [List.getElem?_append_left (by simp; exact (List.getElem?_eq_some_iff.mp this).1), List.getElem?_map, this]
    rfl
  · by_cases hi : i < pk.length
    · rw [List.getElem?_append_left (by omega)]
      exact I.fz i (kget h hi)
    · have : i < n := by rw [← hks]; exact (List.getElem?_eq_some_iff.mp h).1
      rw [List.getElem?_append_right (by omega), List.getElem?_replicate, if_pos (by omega)]
theorem Dis.nil {F : List (List Addr)} (D : Dis F) : Dis (F ++ [[]]) := by
  have at_ : ∀ {i : Nat} {Fi : List Addr}, (F ++ [[]])[i]? = some Fi → F[i]? = some Fi ∨ Fi = [] := fun {i Fi} e => by
    by_cases hi : i < F.length
    · rw [List.getElem?_append_left hi] at e
      exact .inl e
    · rw [List.getElem?_append_right (by omega)] at e
      cases h : i - F.length with
      | zero => rw [h] at e; simp at e; exact .inr e
      | succ n => rw [h] at e; simp at e
  refine ⟨fun i Fi e => ?_, fun i j Fi Fj a e1 e2 m1 m2 => ?_⟩
  · rcases at_ e with e | e
    · exact D.own i Fi e
    · subst e; exact List.nodup_nil
  · rcases at_ e1 with e1 | e1
    · rcases at_ e2 with e2 | e2
      · exact D.apart i j Fi Fj a e1 e2 m1 m2
      · subst e2; cases m2
    · subst e1; cases m1
/-- a def by its body, as a function of data; own: the parameters that are owned -/
theorem FnD.of_body {rk : Kd} {x qual xm : Str} {st : Stmt} {N ps : List Str} {pk ks : List Kd} {own : List Nat} {mb : B} (F : Fun K x qual st f fd) (hm : mg xm = some (.ref f)) (hb : Binds K fd ps []) (S : FnScope N ps (defScope st)) (hpk : pk.length = ps.length) (hks : ks.length = N.length)
    (htk : ks.take pk.length = pk) (hown : ∀ (i : Nat) kd, pk[i]? = some kd → kd ≠ .frz → i ∈ own)
    (body : ∀ (cdv : Value) (A : Around) (outer : List Env) (s : Shared) (H : Hp) (E : XK) (vs : List V), Room k (A.deeper (envOfC qual (defScope st) s.heap.objs.size f cdv)) → (A.deeper (envOfC qual (defScope st) s.heap.objs.size f cdv)).guards = some [] → vs.length = ps.length →
      SsD (cxOf CX0 P w K mg base N qual (defScope st) f cdv A outer s H E).nox ks (pinsOf own vs) rk (defBody st) mb) : FnD P w K mg base (k + 1) xm pk rk (mDef rk pk N.length mb) := by
  refine ⟨f, fd, ps, FnG.of_body F S (fun vs H Q E h => by rw [h.1, hpk]) (fun cdv A outer s H vs Q E room hg h => ?_), hm, F.kp, hb⟩
  obtain ⟨hl, G, Fp, ds, d, outs, I, hmf, q⟩ := h
  have hl2 : vs.length = ps.length := by rw [hl, hpk]
  refine ⟨_, PSs.nox (body cdv A outer s H E vs room hg hl2), ?_⟩
  have hps : ∀ p ∈ pinsOf own vs, vs[p.1]? = some p.2 := fun p hp => by
    obtain ⟨i, _, e⟩ := List.mem_filterMap.mp hp
    obtain ⟨v, e1, e2⟩ := Option.map_eq_some_iff.mp e
    subst e2
    exact e1
  have lE : ds.length = pk.length := by have := I.lE; simpa using this
  have hle : pk.length ≤ ks.length := by have := congrArg List.length htk; rw [List.length_take] at this; omega
  have I0 := EI.start (ks := ks) (ps := pinsOf own vs) (n := N.length) (N := N) I rfl hks htk hps
  unfold mDef at hmf
  have fin : ∀ {v : V} {σ' : L2.St} {F' : List (List Addr)} {H' : Hp} {e : Ev} {d' : PyData} {Fr : List Addr}, finB pk ds d' e = some (d, outs) → Stp (Fp ++ List.replicate (N.length - ds.length) []) H F' H' → EI K ks (pinsOf own vs) (fun a => G a ∨ a ∈ Fr) F' σ' H' e →
      OwnAt K H' (OO (fun a => G a ∨ a ∈ Fr) F') rk Fr d' v → Fr.Nodup → (∀ a ∈ Fr, ¬ G a ∧ (a ∈ Fp.flatten ∨ H a = none)) → Q v H' := by
    intro v σ' F' H' e d' Fr hf S1 J r nF hF
    obtain ⟨os, h1, h2⟩ := Option.map_eq_some_iff.mp hf
    cases h2
    obtain ⟨l1, _, g⟩ := outsOf_get h1
    have lF' := J.lF
    have tk : ∀ {i : Nat} {Fi : List Addr} {a : Addr}, (clr pk F')[i]? = some Fi → a ∈ Fi → F'[i]? = some Fi := fun {i Fi a} e m => by
      obtain ⟨k, F0, _, e2, e3⟩ := clr_at e
      split at e3
      · rw [e3] at m; cases m
      · rw [e3]; exact e2
    have sub : ∀ {a : Addr}, a ∈ (clr pk F').flatten → a ∈ F'.flatten := fun {a} ha => by
      obtain ⟨i, Fi, e, m⟩ := mem_flat.mp ha
      exact mem_flat.mpr ⟨i, Fi, tk e m, m⟩
    have S2 : Stp Fp H (clr pk F') H' := ⟨fun a o e n => S1.keep a o e fun z => n (flat_pad.mp z), S1.dom, S1.tup, S1.frz, fun a ha => (S1.new a (sub ha)).imp flat_pad.mp id⟩
    have lks : ∀ {i : Nat}, i < pk.length → ∃ Fi, F'[i]? = some Fi := fun {i} hi => ⟨_, List.getElem?_eq_getElem (by omega)⟩
    refine q v (clr pk F') H' Fr S2 ⟨by unfold clr; rw [List.length_zipWith]; omega, by simpa using l1, by simpa using hl, ⟨fun i Fi e => ?_, fun i j Fi Fj a e1 e2 m1 m2 => J.nd.apart i j Fi Fj a (tk e1 m1) (tk e2 m2) m1 m2⟩, fun a ha => J.tr a (sub ha), J.gt, fun i dd kd h3 h4 => ?_, (fun p hp => nomatch hp), fun i h => ?_⟩ (r.kp (Kp.less fun a z => z.imp id sub) fun a _ ob e => e) nF hF
    · obtain ⟨k, F0, _, e2, e3⟩ := clr_at e
      split at e3
      · rw [e3]; exact List.nodup_nil
      · rw [e3]; exact J.nd.own i F0 e2
    · rw [List.getElem?_map] at h3
      obtain ⟨d2, e2, e3⟩ := Option.map_eq_some_iff.mp h3
      cases e3
      have hi : i < pk.length := (List.getElem?_eq_some_iff.mp h4).1
      have hk4 : ks[i]? = some kd := by rw [← htk, List.getElem?_take, if_pos hi] at h4; exact h4
      rcases g i dd kd e2 h4 with ⟨rfl | rfl, e5⟩ | ⟨hne, hnp, e5⟩
      · obtain ⟨v', e6, r'⟩ := I.at_frz (i := i) (d := dd) (by rw [List.getElem?_map, e5]; rfl) h4
        exact ⟨v', [], e6, by rw [clr_of h4 (J.fz i hk4), if_neg (by decide)], rfl, Rep.kp (S2.kp2 fun a z => z.imp id fun z => (hF a z).2) r'⟩
      · obtain ⟨v', Fi, e6, e7, o⟩ := I.sl i dd .pt (by rw [List.getElem?_map, e5]; rfl) h4
        obtain ⟨F0, e8⟩ := lks hi
        have e0 : Fi = [] := by obtain ⟨_, _, _, _, h, _⟩ := o; exact h
        subst e0
        exact ⟨v', [], e6, by rw [clr_of h4 e8, if_pos rfl], o.kp (S2.kp2 fun a z => z.imp id fun z => (hF a z).2) fun a ha => nomatch ha⟩
      · obtain ⟨v', Fi, e6, e7, o⟩ := J.sl i dd kd e5 hk4
        have hin : i ∈ own := hown i kd h4 hne
        have hvi : i < vs.length := by rw [hl]; exact hi
        have e8 := J.pn (i, vs[i]) (List.mem_filterMap.mpr ⟨i, hin, by rw [List.getElem?_eq_getElem hvi]; rfl⟩)
        have e9 : v' = vs[i] := by
          dsimp only at e8
          rw [e6] at e8
          exact Option.some.inj (Option.some.inj e8)
        subst e9
        refine ⟨_, Fi, by rw [List.getElem?_map, List.getElem?_eq_getElem hvi]; rfl, by rw [clr_of h4 e7, if_neg hnp], o.kp (Kp.less fun a z => z.elim .inl fun z => .inr (sub z)) fun a _ ob e => e⟩
    · have hi : i < pk.length := (List.getElem?_eq_some_iff.mp h).1
      have hk4 : ks[i]? = some Kd.frz := by rw [← htk, List.getElem?_take, if_pos hi] at h; exact h
      rw [clr_of h (J.fz i hk4), if_neg (by decide)]
  split at hmf
  · rename_i d' e h1
    exact ⟨G, _, _, _, I0, h1, fun v σ' F' H' Fr S1 J r nF hF => fin hmf S1 J r nF fun a ha => ⟨(hF a ha).1, (hF a ha).2.imp flat_pad.mp id⟩⟩
  · rename_i e h1
    split at hmf
    · rename_i hrk
      subst hrk
      exact ⟨G, _, _, _, I0, h1, fun σ' F' H' S1 J => fin (Fr := []) hmf S1 (by rw [noneG]; exact J) ⟨rfl, rep_non⟩ List.nodup_nil fun a ha => nomatch ha⟩
    · cases hmf
  · cases hmf
end
end DL

/-! DLG: calls of defs; what is owned is made, changed, given away. -/
namespace DL
open PySem PySem.Spec PyProof.Rows L2
section
variable {rk : Kd} {X : Cx} {ks : List Kd} {ps : List (Nat × V)} {a b c e o : Expr} {es : List Expr} {pos pos' : Pos}

/-! ### slots that own -/
/-- slot i's own things are changed (or others come in their place), more is kept from being held -/
theorem EI.swap2 {K : PySem.W.Frag} {G G' : Addr → Prop} {F : List (List Addr)} {σ : L2.St} {H H' : Hp} {env : Ev} {i : Nat} {kd : Kd} {Fi Fi' : List Addr} {d : PyData} {v : V} (I : EI K ks ps G F σ H env) (hF : F[i]? = some Fi) (hk : ks[i]? = some kd) (hne : kd ≠ .frz) (hσ : σ[i]? = some (some v))
    (keep : ∀ a o, H a = some o → a ∉ Fi → H' a = some o) (dom : ∀ a, H a ≠ none → H' a ≠ none) (tup : ∀ a xs, H a = some (.tup xs) → H' a = some (.tup xs)) (frz : ∀ a o u, H a = some (.frz o u) → H' a = some (.frz o u))
    (hn : Fi'.Nodup) (hnew : ∀ a ∈ Fi', (a ∈ Fi ∨ H a = none) ∧ H' a ≠ none ∧ ¬ G' a) (hG : ∀ a, G' a → G a ∨ a ∈ Fi ∨ H a = none) (hG2 : ∀ a, G' a → H' a ≠ none) (ho : OwnAt K H' (OO G' (F.set i Fi')) kd Fi' d v) : EI K ks ps G' (F.set i Fi') σ H' (env.set i (some d)) ∧ Stp F H (F.set i Fi') H' := by
  have hi : i < ks.length := (List.getElem?_eq_some_iff.mp hk).1
  have inF : ∀ {a : Addr}, a ∈ Fi → a ∈ F.flatten := fun {a} h => mem_flat.mpr ⟨i, Fi, hF, h⟩
  have S : Stp F H (F.set i Fi') H' := by
    refine ⟨fun a o e n => keep a o e fun z => n (inF z), dom, tup, frz, fun a ha => ?_⟩
    rcases mem_set ha with h | ⟨j, Fj, hj, e, m⟩
    · exact (hnew a h).1.imp inF id
    · exact .inl (mem_flat.mpr ⟨j, Fj, e, m⟩)
  refine ⟨⟨by rw [List.length_set]; exact I.lF, by rw [List.length_set]; exact I.lE, I.lS, I.nd.set hn fun a ha j Fj hj e m => ?_, fun a ha => ?_, hG2, fun j d' kd' h1 h2 => ?_, I.pn, fun j h => ?_⟩, S⟩
  · rcases (hnew a ha).1 with h | h
    · exact hj (I.nd.apart j i Fj Fi a e hF m h)
    · exact (I.tr a (mem_flat.mpr ⟨j, Fj, e, m⟩)).1 h
  · rcases mem_set ha with h | ⟨j, Fj, hj, e, m⟩
    · exact (hnew a h).2
    · have t := I.tr a (mem_flat.mpr ⟨j, Fj, e, m⟩)
      refine ⟨dom a t.1, fun z => ?_⟩
      rcases hG a z with z | z | z
      · exact t.2 z
      · exact hj (I.nd.apart j i Fj Fi a e hF m z)
      · exact t.1 z
  · by_cases hj : j = i
    · subst hj
      rw [List.getElem?_set_self (by rw [I.lE]; exact hi)] at h1
      cases h1
      rw [hk] at h2; cases h2
      exact ⟨v, Fi', hσ, by rw [List.getElem?_set_self (by rw [I.lF]; exact hi)], ho⟩
    · rw [List.getElem?_set_ne (Ne.symm hj)] at h1
      obtain ⟨w, Fj, e1, e2, o⟩ := I.sl j d' kd' h1 h2
      refine ⟨w, Fj, e1, by rw [List.getElem?_set_ne (Ne.symm hj)]; exact e2, o.kp (S.kp2 fun a z => (hG a z).imp id fun z => z.imp inF id) fun a ha ob e => keep a ob e fun z => hj (I.nd.apart j i Fj Fi a e2 hF ha z)⟩
  · have hj : j ≠ i := fun z => by subst z; rw [hk] at h; exact hne (Option.some.inj h)
    rw [List.getElem?_set_ne (Ne.symm hj)]
    exact I.fz j h
/-- slot i's own things are changed (or others come in their place) -/
theorem EI.swap {K : PySem.W.Frag} {G : Addr → Prop} {F : List (List Addr)} {σ : L2.St} {H H' : Hp} {env : Ev} {i : Nat} {kd : Kd} {Fi Fi' : List Addr} {d : PyData} {v : V} (I : EI K ks ps G F σ H env) (hF : F[i]? = some Fi) (hk : ks[i]? = some kd) (hne : kd ≠ .frz) (hσ : σ[i]? = some (some v))
    (keep : ∀ a o, H a = some o → a ∉ Fi → H' a = some o) (dom : ∀ a, H a ≠ none → H' a ≠ none) (tup : ∀ a xs, H a = some (.tup xs) → H' a = some (.tup xs)) (frz : ∀ a o u, H a = some (.frz o u) → H' a = some (.frz o u))
    (hn : Fi'.Nodup) (hnew : ∀ a ∈ Fi', (a ∈ Fi ∨ H a = none) ∧ H' a ≠ none) (ho : OwnAt K H' (OO G (F.set i Fi')) kd Fi' d v) : EI K ks ps G (F.set i Fi') σ H' (env.set i (some d)) ∧ Stp F H (F.set i Fi') H' :=
  I.swap2 hF hk hne hσ keep dom tup frz hn (fun a h => ⟨(hnew a h).1, (hnew a h).2, fun z => (hnew a h).1.elim (fun m => (I.tr a (mem_flat.mpr ⟨i, Fi, hF, m⟩)).2 z) (I.gt a z)⟩) (fun a z => .inl z) (fun a z => dom a (I.gt a z)) ho
/-- a slot takes what is new and its own -/
theorem EI.setOwn {K : PySem.W.Frag} {G : Addr → Prop} {F : List (List Addr)} {σ : L2.St} {H : Hp} {env : Ev} {i : Nat} {kd : Kd} {Fr : List Addr} {d : PyData} {v : V} (I : EI K ks ps (fun a => G a ∨ a ∈ Fr) F σ H env) (hk : ks[i]? = some kd) (hne : kd ≠ .frz) (hp : psOk ps i = true)
    (hn : Fr.Nodup) (hG : ∀ a ∈ Fr, ¬ G a) (ho : OwnAt K H (OO (fun a => G a ∨ a ∈ Fr) F) kd Fr d v) : EI K ks ps G (F.set i Fr) (σ.set i (some v)) H (env.set i (some d)) := by
  have hi : i < ks.length := (List.getElem?_eq_some_iff.mp hk).1
  have less : ∀ a, OO G (F.set i Fr) a → OO (fun a => G a ∨ a ∈ Fr) F a := fun a z => by
    rcases z with z | z
    · exact .inl (.inl z)
    · rcases mem_set z with h | ⟨j, Fj, hj, e, m⟩
      · exact .inl (.inr h)
      · exact .inr (mem_flat.mpr ⟨j, Fj, e, m⟩)
  refine ⟨by rw [List.length_set]; exact I.lF, by rw [List.length_set]; exact I.lE, by rw [List.length_set]; exact I.lS, I.nd.set hn fun a ha j Fj hj e m => (I.tr a (mem_flat.mpr ⟨j, Fj, e, m⟩)).2 (.inr ha), fun a ha => ?_, fun a ha => I.gt a (.inl ha), fun j d' kd' h1 h2 => ?_, fun p hp' => ?_, fun j h => ?_⟩
  · rcases mem_set ha with h | ⟨j, Fj, hj, e, m⟩
    · exact ⟨I.gt a (.inr h), hG a h⟩
    · have t := I.tr a (mem_flat.mpr ⟨j, Fj, e, m⟩)
      exact ⟨t.1, fun z => t.2 (.inl z)⟩
  · by_cases hj : j = i
    · subst hj
      rw [List.getElem?_set_self (by rw [I.lE]; exact hi)] at h1
      cases h1
      rw [hk] at h2; cases h2
      exact ⟨v, Fr, by rw [List.getElem?_set_self (by rw [I.lS]; exact hi)], by rw [List.getElem?_set_self (by rw [I.lF]; exact hi)], ho.kp (Kp.less less) fun a _ ob e => e⟩
    · rw [List.getElem?_set_ne (Ne.symm hj)] at h1
      obtain ⟨w, Fj, e1, e2, o⟩ := I.sl j d' kd' h1 h2
      exact ⟨w, Fj, by rw [List.getElem?_set_ne (Ne.symm hj)]; exact e1, by rw [List.getElem?_set_ne (Ne.symm hj)]; exact e2, o.kp (Kp.less less) fun a _ ob e => e⟩
  · rw [List.getElem?_set_ne (Ne.symm (psOk_ne hp p hp'))]; exact I.pn p hp'
  · have hj : j ≠ i := fun z => by subst z; rw [hk] at h; exact hne (Option.some.inj h)
    rw [List.getElem?_set_ne (Ne.symm hj)]
    exact I.fz j h
/-- what a slot owns is given away -/
theorem EI.give {K : PySem.W.Frag} {G : Addr → Prop} {F : List (List Addr)} {σ : L2.St} {H : Hp} {env : Ev} {i : Nat} {d : PyData} (I : EI K ks ps G F σ H env) (h1 : env[i]? = some (some d)) (hp : psOk ps i = true) :
    ∃ v F', σ[i]? = some (some v) ∧ EI K ks ps G F' σ H (env.set i none) ∧ Rep K H (OO G F') d v ∧ (∀ a, OO G F' a → OO G F a) := by
  have hi : i < ks.length := by rw [← I.lE]; exact (List.getElem?_eq_some_iff.mp h1).1
  obtain ⟨v, Fi, e1, e2, o⟩ := I.sl i d _ h1 (List.getElem?_eq_getElem hi)
  have less : ∀ a, OO G (F.set i []) a → OO G F a := fun a z => by
    rcases z with z | z
    · exact .inl z
    · rcases mem_set z with h | ⟨j, Fj, hj, e, m⟩
      · cases h
      · exact .inr (mem_flat.mpr ⟨j, Fj, e, m⟩)
  refine ⟨v, F.set i [], e1, ⟨by rw [List.length_set]; exact I.lF, by rw [List.length_set]; exact I.lE, I.lS, I.nd.set List.nodup_nil (fun a ha => nomatch ha), fun a ha => ?_, I.gt, fun j d' kd' h3 h4 => ?_, I.pn, fun j h => ?_⟩, o.repP less fun a ha z => ?_, less⟩
  · rcases mem_set ha with h | ⟨j, Fj, hj, e, m⟩
    · cases h
    · exact I.tr a (mem_flat.mpr ⟨j, Fj, e, m⟩)
  · by_cases hj : j = i
    · subst hj
      rw [List.getElem?_set_self (by rw [I.lE]; exact hi)] at h3
      exact nomatch (Option.some.inj h3)
    · rw [List.getElem?_set_ne (Ne.symm hj)] at h3
      obtain ⟨w, Fj, g1, g2, o'⟩ := I.sl j d' kd' h3 h4
      exact ⟨w, Fj, g1, by rw [List.getElem?_set_ne (Ne.symm hj)]; exact g2, o'.kp (Kp.less less) fun a _ ob e => e⟩
  · by_cases hj : j = i
    · subst hj
      rw [List.getElem?_set_self (by rw [I.lF]; exact hi)]
    · rw [List.getElem?_set_ne (Ne.symm hj)]
      exact I.fz j h
  · rcases z with z | z
    · exact (I.tr a (mem_flat.mpr ⟨i, Fi, e2, ha⟩)).2 z
    · rcases mem_set z with h | ⟨j, Fj, hj, e, m⟩
      · cases h
      · exact hj (I.nd.apart j i Fj Fi a e e2 m ha)
/-- return x, x a slot that owns -/
def mTake (i : Nat) : M PyData := fun e => match e[i]? with
  | some (some d) => some (d, e.set i none)
  | _ => none
theorem ed_take (i : Nat) {x : Str} (hN : X.N[i]? = some x := by rfl) (hp : psOk ps i = true := by rfl) (hv : Vis X.env.scope x := by first | exact Or.inl rfl | exact Or.inr (Or.inl rfl) | exact Or.inr (Or.inr rfl)) (hd : (x == ("__debug__" : Str)) = false := by decide)
    (hcd : (x == ("__classdict__" : Str)) = false := by decide) : ED X ks ps (.Name x pos) (mTake i) := PE.imp (pe_var hN hv hd hcd) fun σ H Q q => by
  obtain ⟨G, F, env, d, env', I, hm, q⟩ := q
  unfold mTake at hm
  split at hm
  · rename_i d' he
    cases hm
    obtain ⟨v, F', e1, J, r, less⟩ := I.give he hp
    exact ⟨v, e1, q v F' H ⟨fun _ _ e _ => e, fun _ e => e, fun _ _ e => e, fun _ _ _ e => e, fun a ha => by
      rcases less a (.inr ha) with z | z
      · exact absurd z (J.tr a ha).2
      · exact .inl z⟩ J r⟩
  · cases hm

/-! ### what is new and one's own -/
theorem ed_own {kd : Kd} {m : M PyData} (h : FD X ks ps kd e m) : ED X ks ps e m := PE.imp h fun σ H Q q => by
  obtain ⟨G, F, env, d, env', I, hm, q⟩ := q
  refine ⟨G, F, env, d, env', I, hm, fun v F' H' Fr S J o hn hF => q v F' H' S (J.lessG fun _ z => .inl z) (o.repP (fun a z => z.elim (fun z => .inl (.inl z)) .inr) fun a ha z => ?_)⟩
  rcases z with z | z
  · exact (hF a ha).1 z
  · exact (J.tr a z).2 (.inr ha)
/-- x = e, x a slot that owns -/
theorem sd_own {i : Nat} {x : Str} {kd : Kd} {m : M PyData} (hN : X.N.Nodup) (hi : X.N[i]? = some x) (hx : Loc X.env.scope x) (hk : ks[i]? = some kd) (hne : kd ≠ .frz) (hp : psOk ps i = true) (he : FD X ks ps kd e m) (hs : swapsWith e (some (.Name x pos')) pos.line X.env = pure false := by rfl)
    (hf : X.fn x = true ∨ X.env.scope.names.lookup x = some .local := by first | exact .inl rfl | exact .inr rfl | assumption) : SD X ks ps rk (.Assign [.Name x pos'] e pos) (sAsg m (gNm i)) := PS.imp (ps_set hN hi hx he hs hf) fun D σ H q => by
  obtain ⟨G, F, env, out, I, hm, q⟩ := q
  obtain ⟨d, e1, e2, h1, h2, rfl⟩ := sAsg_some hm
  cases h2
  refine ⟨G, F, env, d, e1, I, h1, fun v F1 H1 Fr S1 I1 o hn hF => q _ (F1.set i Fr) H1 ?_ (I1.setOwn hk hne hp hn (fun a ha => (hF a ha).1) o)⟩
  refine ⟨S1.keep, S1.dom, S1.tup, S1.frz, fun a ha => ?_⟩
  rcases mem_set ha with h | ⟨j, Fj, hj, e, m⟩
  · exact (hF a h).2
  · exact S1.new a (mem_flat.mpr ⟨j, Fj, e, m⟩)
theorem fresh_own {K : PySem.W.Frag} {G : Addr → Prop} {F : List (List Addr)} {σ : L2.St} {H : Hp} {env : Ev} {p : Addr} {u : HO} (I : EI K ks ps G F σ H env) (hp : H p = none) : EI K ks ps (fun a => G a ∨ a ∈ [p]) F σ (upd H p u) env :=
  I.moreG (same_upd hp) (fun a z => z.imp id fun z => by rw [List.mem_singleton.mp z]; exact hp) fun a z => by
    rcases z with z | z
    · exact (Stp.same (F := F) (same_upd (o := u) hp)).dom a (I.gt a z)
    · rw [List.mem_singleton.mp z, upd_same]; simp
theorem fresh_kp {G : Addr → Prop} {F : List (List Addr)} {H : Hp} {p : Addr} {u : HO} (hp : H p = none) : Kp (OO G F) H (OO (fun a => G a ∨ a ∈ [p]) F) (upd H p u) :=
  (Stp.same (F := F) (same_upd (o := u) hp)).kp2 fun a z => z.imp id fun z => .inr <| by rw [List.mem_singleton.mp z]; exact hp
/-- [a, b, ..] -/
theorem fd_lst {ma : M (List Opd)} (h : AoD X ks ps es ma) : FD X ks ps .l1 (.List es pos) (mLst ma) := PE.imp (pe_lst h) fun σ H Q q => by
  obtain ⟨G, F, env, d, env', I, hm, q⟩ := q
  obtain ⟨os, e1, h1, h2⟩ := bnd_some hm
  obtain ⟨h2, rfl⟩ := lft_some h2
  split at h2
  · cases h2
  · rename_i ds g
    split at h2
    · cases h2
      rename_i hl
      refine ⟨G, F, env, os, _, I, h1, fun vs F1 H1 S1 I1 r1 => ?_⟩
      have ra := HoldsA.vals r1 g
      have hlen := ra.length
      refine ⟨Nat.le_of_lt (small1000 (by omega)), fun p hp => ?_⟩
      refine q _ F1 _ [p] (S1.trans (.same (same_upd hp))) (fresh_own I1 hp) ⟨p, vs, ds, rfl, rfl, rfl, upd_same, RepA.kp (fresh_kp hp) ra⟩ (List.nodup_cons.mpr ⟨List.not_mem_nil, List.nodup_nil⟩) fun a ha => ?_
      rw [List.mem_singleton.mp ha]
      exact ⟨fun z => I1.gt p z hp, .inr (S1.back hp)⟩
    · cases h2
/-- {} -/
theorem fd_dk0 : FD X ks ps .dk (.Dict [] [] pos) (ret (.dict [])) := PE.imp pe_dnewK fun σ H Q q => by
  obtain ⟨G, F, env, d, env', I, hm, q⟩ := q
  cases hm
  intro p hp
  refine q _ F _ [p] (.same (same_upd hp)) (fresh_own I hp) ⟨p, [], [], rfl, rfl, rfl, upd_same, rfl, by simp only [RepV, List.map_nil]⟩ (List.nodup_cons.mpr ⟨List.not_mem_nil, List.nodup_nil⟩) fun a ha => ?_
  rw [List.mem_singleton.mp ha]
  exact ⟨fun z => I.gt p z hp, .inr hp⟩
/-! ### calls of defs -/
/-- what of a result hangs on nothing that may be changed -/
def immK : Kd → PyData → Bool
  | .frz, d => imm d
  | .l1, .list ds => immA ds
  | .l2, .list ds => ds.all fun d => match d with
    | .list es => immA es
    | _ => false
  | .dk, .dict kvs => immA (kvs.map (·.2))
  | .dt, .dict kvs => immA (kvs.map (·.2))
  | .src, _ => true
  | .pt, .tuple ds => immA ds
  | _, _ => false
theorem OwnAt.imm {K : PySem.W.Frag} {H : Hp} {O O' : Addr → Prop} {kd : Kd} {Fr : List Addr} {d : PyData} {v : V} (hi : immK kd d = true) (h : OwnAt K H O kd Fr d v) : OwnAt K H O' kd Fr d v := by
  cases kd with
  | frz => exact ⟨h.1, Rep.imm hi h.2⟩
  | l1 =>
    obtain ⟨a, xs, ds, rfl, rfl, e2, e3, r⟩ := h
    exact ⟨a, xs, ds, rfl, rfl, e2, e3, RepA.imm hi r⟩
  | l2 =>
    obtain ⟨a, bs, dss, rfl, rfl, e2, e3, el, r⟩ := h
    refine ⟨a, bs, dss, rfl, rfl, e2, e3, el, fun i b ds g1 g2 => ?_⟩
    obtain ⟨xs, q1, q2⟩ := r i b ds g1 g2
    refine ⟨xs, q1, RepA.imm ?_ q2⟩
    have hm : PyData.list ds ∈ List.map PyData.list dss := List.mem_map.mpr ⟨ds, List.mem_of_getElem? g2, rfl⟩
    have := List.all_eq_true.mp hi _ hm
    simpa using this
  | dk =>
    obtain ⟨a, kvs, l, rfl, rfl, e2, e3, e4, r⟩ := h
    exact ⟨a, kvs, l, rfl, rfl, e2, e3, e4, RepV_iff.mpr (RepA.imm hi (RepV_iff.mp r))⟩
  | dt =>
    obtain ⟨a, kvs, l, rfl, rfl, e2, e3, e4, r⟩ := h
    exact ⟨a, kvs, l, rfl, rfl, e2, e3, e4, RepV_iff.mpr (RepA.imm hi (RepV_iff.mp r))⟩
  | src => exact h
  | pt =>
    obtain ⟨a, xs, ds, o, rfl, rfl, e2, e3, e4, e5, r⟩ := h
    exact ⟨a, xs, ds, o, rfl, rfl, e2, e3, e4, e5, RepA.imm hi r⟩
theorem ifownK {K : PySem.W.Frag} {H : Hp} {O Fp : Addr → Prop} {b : Bool} {kd : Kd} {Fr : List Addr} {d : PyData} {v : V} (hi : ¬ (b && !immK kd d) = true) (h : OwnAt K H (fun a => (if b then fun _ => False else O) a ∨ Fp a) kd Fr d v) : OwnAt K H (fun a => O a ∨ Fp a) kd Fr d v := by
  cases b with
  | false => exact h
  | true => exact OwnAt.imm (by simpa using hi) h
def rsK (rk : Kd) (g : List PyData → Option PyData) (os : List Opd) : M PyData := fun e => match getAll os e with
  | none => none
  | some ds => match g ds with
    | none => none
    | some d => if os.any Opd.own && !immK rk d then none else some (d, e)
theorem rsK_some {g : List PyData → Option PyData} {os : List Opd} {e e2 : Ev} {r : PyData} (h : rsK rk g os e = some (r, e2)) : e2 = e ∧ ∃ ds, getAll os e = some ds ∧ g ds = some r ∧ ¬ (os.any Opd.own && !immK rk r) = true := by
  unfold rsK at h
  split at h
  · cases h
  · rename_i ds h1
    split at h
    · cases h
    · rename_i d h2
      split at h
      · cases h
      · cases h
        exact ⟨rfl, ds, h1, h2, by assumption⟩
/-- a def's call: the arguments' data, what comes -/
def mCall (rk : Kd) (n : Nat) (mf : List PyData → Option (PyData × List PyData)) (ma : M (List Opd)) : M PyData := bnd ma fun os => rsK rk (fun ds => if ds.length = n then (mf ds).map (·.1) else none) os
def spF (K : PySem.W.Frag) (n : Nat) (rk : Kd) (g : List PyData → Option PyData) : Sp := fun vs H Q _ => vs.length = n ∧ ∃ O ds d, (∀ p, H p = none → ¬ O p) ∧ RepA K H O ds vs ∧ g ds = some d ∧
  ∀ v H' Fr, Same H H' → OwnAt K H' (fun a => O a ∨ a ∈ Fr) rk Fr d v → Fr.Nodup → (∀ a ∈ Fr, H a = none ∧ H' a ≠ none) → Q v H'
theorem noF_rep {n : Nat} {a : Addr} : a ∉ (List.replicate n ([] : List Addr)).flatten := fun z => by
  obtain ⟨l, h1, h2⟩ := List.mem_flatten.mp z
  rw [(List.mem_replicate.mp h1).2] at h2
  cases h2
theorem frz_EI {K : PySem.W.Frag} {O : Addr → Prop} {H : Hp} {ds : List PyData} {vs : List V} {n : Nat} (fr : ∀ p, H p = none → ¬ O p) (h : RepA K H O ds vs) (hn : ds.length = n) : EI K (List.replicate n .frz) [] O (List.replicate n []) (vs.map some) H (ds.map some) := by
  have hl := h.length
  have noF : ∀ {a : Addr}, a ∉ (List.replicate n ([] : List Addr)).flatten := fun {a} z => by
    obtain ⟨l, h1, h2⟩ := List.mem_flatten.mp z
    rw [(List.mem_replicate.mp h1).2] at h2
    cases h2
  refine ⟨by simp, by simp [hn], by simp; omega, ⟨fun i Fi e => ?_, fun i j Fi Fj a e1 e2 m1 m2 => ?_⟩, fun a ha => absurd ha noF, fun a ha => fun z => fr a z ha, fun i d kd h1 h2 => ?_, (fun p hp => nomatch hp), fun i h => ?_⟩
  · rw [List.getElem?_replicate] at e
    split at e
    · cases e; exact List.nodup_nil
    · cases e
  · rw [List.getElem?_replicate] at e1
    split at e1
    · cases e1; cases m1
    · cases e1
  · rw [List.getElem?_replicate] at h2
    split at h2
    · cases h2
      rw [List.getElem?_map] at h1
      obtain ⟨d', e1, e2⟩ := Option.map_eq_some_iff.mp h1
      cases e2
      obtain ⟨x, e3, r⟩ := h.get e1
      refine ⟨x, [], by rw [List.getElem?_map, e3]; rfl, by rw [List.getElem?_replicate, if_pos (by assumption)], rfl, Rep.kp (Kp.less fun a z => z.elim id fun z => absurd z noF) r⟩
    · cases h2
  · rw [List.getElem?_replicate] at h ⊢
    split at h
    · rw [if_pos (by assumption)]
    · cases h
/-- a def that owns no parameter, called -/
theorem fd_call {k n : Nat} {x : Str} {p : Pos} {mf : List PyData → Option (PyData × List PyData)} {ma : M (List Opd)} (F : FnD X.prog X.w X.K X.mg X.base k x (List.replicate n .frz) rk mf) (hr : Room k X.A) (hgd : X.A.guards = some []) (hg : Gl X x)
    (hx : Passes CX0 X E0) (ha : AoD X ks ps (e :: es) ma) (hdb : (x == ("__debug__" : Str)) = false := by decide) (he : starEach (e :: es) X.env = (false, eval e X.env) :: starEach es X.env := by rfl) (hpl : (backTo pos (starEach es X.env)).any (·.1) = false := by rfl) :
    FD X ks ps rk (.Call (.Name x p) (e :: es) [] pos) (mCall rk n mf ma) := by
  obtain ⟨f, fd, ps', F1, hm, hk, hb⟩ := F
  have F2 : FnG X.prog X.w X.K X.mg X.base CX0 k f fd ps' (spF X.K n rk fun ds => if ds.length = n then (mf ds).map (·.1) else none) := F1.weak fun vs H Q E h => by
    obtain ⟨hl, O, ds, d, fr, ra, hd, q⟩ := h
    have hd : (if ds.length = n then Option.map (fun x => x.fst) (mf ds) else none) = some d := hd
    rw [if_pos (by rw [ra.length]; exact hl)] at hd
    obtain ⟨⟨d', outs⟩, h1, rfl⟩ := Option.map_eq_some_iff.mp hd
    refine ⟨by simpa using hl, O, _, ds, d', outs, frz_EI fr ra (by rw [ra.length]; exact hl), h1, fun v F' H' Fr S J o n hF => q v H' Fr (fun a u e => S.keep a u e noF_rep) (o.kp (Kp.less fun a z => .inl z) fun a _ ob e => e) n fun a ha => ⟨(hF a ha).2.resolve_left noF_rep, J.gt a (.inr ha)⟩⟩
  refine PE.imp (pg_call F2 hr hgd hg hm hk hb hx ha hdb he hpl) fun σ H Q q => ?_
  obtain ⟨G, F, env, d, env', I, hm', q⟩ := q
  obtain ⟨os, e1, h1, h2⟩ := bnd_some hm'
  obtain ⟨rfl, ds, g1, g3, gi⟩ := rsK_some h2
  refine ⟨G, F, env, os, env', I, h1, fun vs F1 H1 S1 I1 r1 => ?_⟩
  have ra := HoldsA.rep I1 r1 g1
  have hlen : vs.length = n := by
    have g3' : (if ds.length = n then Option.map (fun x => x.fst) (mf ds) else none) = some d := g3
    split at g3'
    · rw [← ra.length]; assumption
    · cases g3'
  refine ⟨hlen, _, ds, d, fresh_if I1, ra, g3, fun w H3 Fr s3 o3 n3 hF => ?_⟩
  refine q w F1 H3 Fr (S1.trans (.same s3)) (I1.moreG s3 (fun a z => z.imp id fun z => (hF a z).1) fun a z => z.elim (fun z => (Stp.same (F := F1) s3).dom a (I1.gt a z)) fun z => (hF a z).2) ?_ n3 fun a ha => ⟨fun z => I1.gt a z (hF a ha).1, .inr (S1.back (hF a ha).1)⟩
  refine (ifownK gi o3).kp (Kp.less fun a z => ?_) fun a _ ob e => e
  rcases z with (z | z) | z
  · exact .inl (.inl z)
  · exact .inr z
  · exact .inl (.inr z)
theorem ed_call {k n : Nat} {x : Str} {p : Pos} {mf : List PyData → Option (PyData × List PyData)} {ma : M (List Opd)} (F : FnD X.prog X.w X.K X.mg X.base k x (List.replicate n .frz) rk mf) (hr : Room k X.A) (hgd : X.A.guards = some []) (hg : Gl X x)
    (hx : Passes CX0 X E0) (ha : AoD X ks ps (e :: es) ma) (hdb : (x == ("__debug__" : Str)) = false := by decide) (he : starEach (e :: es) X.env = (false, eval e X.env) :: starEach es X.env := by rfl) (hpl : (backTo pos (starEach es X.env)).any (·.1) = false := by rfl) :
    ED X ks ps (.Call (.Name x p) (e :: es) [] pos) (mCall rk n mf ma) := ed_own (fd_call F hr hgd hg hx ha hdb he hpl)
/-- f(x, e, ..), x a slot that owns, which the def changes; n further arguments -/
def noSlot (i : Nat) : List Opd → Bool
  | [] => true
  | .slot l :: r => l != i && noSlot i r
  | .val _ :: r => noSlot i r
def mCallS (rk kd : Kd) (mf : List PyData → Option (PyData × List PyData)) (i n : Nat) (ma : M (List Opd)) : M PyData := fun e => match e[i]? with
  | some (some _) => match ma e with
    | none => none
    | some (os, e1) => match e1[i]? with
      | some (some s) => match getAll os e1 with
        | none => none
        | some ds => if ds.length = n ∧ noSlot i os = true then match mf (s :: ds) with
          | some (d, y :: _) => if os.any Opd.own && !(immK rk d && decide (kd = .src)) then none else some (d, e1.set i (some y))
          | _ => none
          else none
      | _ => none
  | _ => none
theorem mCallS_some {kd : Kd} {mf : List PyData → Option (PyData × List PyData)} {i n : Nat} {ma : M (List Opd)} {e e' : Ev} {d : PyData} (h : mCallS rk kd mf i n ma e = some (d, e')) :
    ∃ s0 os e1 s ds y outs, e[i]? = some (some s0) ∧ ma e = some (os, e1) ∧ e1[i]? = some (some s) ∧ getAll os e1 = some ds ∧ ds.length = n ∧ noSlot i os = true ∧ mf (s :: ds) = some (d, y :: outs) ∧ (os.any Opd.own = true → immK rk d = true ∧ kd = .src) ∧ e' = e1.set i (some y) := by
  unfold mCallS at h
  split at h
  · rename_i s0 h0
    split at h
    · cases h
    · rename_i os e1 h1
      split at h
      · rename_i s h2
        split at h
        · cases h
        · rename_i ds h3
          split at h
          · rename_i h4
            split at h
            · rename_i d' y outs h5
              split at h
              · cases h
              · rename_i h6
                cases h
                refine ⟨s0, os, e1, s, ds, y, outs, h0, h1, h2, h3, h4.1, h4.2, h5, fun z => ?_, rfl⟩
                rw [z] at h6
                simpa using h6
            · cases h
          · cases h
      · cases h
  · cases h
theorem HoldsA.apart {K : PySem.W.Frag} {G P : Addr → Prop} {F : List (List Addr)} {σ : L2.St} {H : Hp} {env : Ev} {i : Nat} {Fi : List Addr} (I : EI K ks ps G F σ H env) (hF : F[i]? = some Fi) (hP : ∀ a, P a → a ∈ Fi) : ∀ {os : List Opd} {vs : List V} {ds : List PyData}, HoldsA K ks G F σ H os vs → getAll os env = some ds → noSlot i os = true →
    RepA K H P ds vs
  | [], _, _, h, e, _ => by cases e; simp only [RepA]; exact h
  | .val d :: r, _, ds, h, e, n => by
    obtain ⟨x, t, rfl, h1, h2⟩ := h
    unfold getAll Opd.get at e
    dsimp only at e
    split at e
    · cases e
    · rename_i ds' g2
      cases e
      exact .cons (Rep.kp (Kp.less fun a z => .inr (mem_flat.mpr ⟨i, Fi, hF, hP a z⟩)) h1) (HoldsA.apart I hF hP h2 g2 n)
  | .slot l :: r, _, ds, h, e, n => by
    obtain ⟨x, t, rfl, h1, h2⟩ := h
    unfold getAll at e
    split at e
    · cases e
    · rename_i d g1
      split at e
      · cases e
      · rename_i ds' g2
        cases e
        unfold noSlot at n
        rw [Bool.and_eq_true] at n
        refine .cons ?_ (HoldsA.apart I hF hP h2 g2 n.2)
        unfold Opd.get at g1
        dsimp only at g1
        split at g1
        · rename_i d' hd
          cases g1
          have hk : l < ks.length := by rw [← I.lE]; exact (List.getElem?_eq_some_iff.mp hd).1
          obtain ⟨v', Fl, e1, e2, o⟩ := I.sl l d _ hd (List.getElem?_eq_getElem hk)
          have h1' : σ[l]? = some (some x) := h1
          rw [h1'] at e1
          cases e1
          refine o.repP (fun a z => .inr (mem_flat.mpr ⟨i, Fi, hF, hP a z⟩)) fun a ha z => ?_
          have := I.nd.apart l i Fl Fi a e2 hF ha (hP a z)
          simp [this] at n
        · cases g1
/-- the parameters' state: the first owned, the rest not -/
theorem own_EI {K : PySem.W.Frag} {Gc : Addr → Prop} {H : Hp} {kd : Kd} {Fi : List Addr} {s : PyData} {v : V} {ds : List PyData} {vs : List V} {n : Nat} (hne : kd ≠ .frz) (hn : Fi.Nodup) (ht : ∀ a ∈ Fi, H a ≠ none ∧ ¬ Gc a) (hg : ∀ a, Gc a → H a ≠ none)
    (ho : OwnAt K H (OO Gc [Fi]) kd Fi s v) (h : RepA K H (OO Gc [Fi]) ds vs) (hl : ds.length = n) : EI K (kd :: List.replicate n .frz) [] Gc (Fi :: List.replicate n []) ((v :: vs).map some) H ((s :: ds).map some) := by
  have hl2 := h.length
  have fl : ∀ {a : Addr}, a ∈ (Fi :: List.replicate n ([] : List Addr)).flatten ↔ a ∈ Fi := fun {a} => by
    rw [List.flatten_cons, List.mem_append]
    exact ⟨fun z => z.elim id fun z => absurd z noF_rep, .inl⟩
  have less : ∀ a, OO Gc (Fi :: List.replicate n []) a → OO Gc [Fi] a := fun a z => z.imp id fun z => by simpa using fl.mp z
  refine ⟨by simp, by simp [hl], by simp; omega, ⟨fun i Fj e => ?_, fun i j F1 F2 a e1 e2 m1 m2 => ?_⟩, fun a ha => ht a (fl.mp ha), hg, fun i d kd' h1 h2 => ?_, (fun p hp => nomatch hp), fun i h => ?_⟩
  · cases i with
    | zero => simp at e; subst e; exact hn
    | succ i =>
      rw [List.getElem?_cons_succ, List.getElem?_replicate] at e
      split at e
      · cases e; exact List.nodup_nil
      · cases e
  · have z : ∀ {i : Nat} {Fj : List Addr}, (Fi :: List.replicate n [])[i]? = some Fj → a ∈ Fj → i = 0 := fun {i Fj} e m => by
      cases i with
      | zero => rfl
      | succ i =>
        rw [List.getElem?_cons_succ, List.getElem?_replicate] at e
        split at e
        · cases e; cases m
        · cases e
    rw [z e1 m1, z e2 m2]
  · cases i with
    | zero =>
      simp at h1 h2
      subst h1; subst h2
      exact ⟨v, Fi, rfl, rfl, ho.kp (Kp.less less) fun a _ ob e => e⟩
    | succ i =>
      rw [List.getElem?_cons_succ, List.getElem?_replicate] at h2
      split at h2
      · cases h2
        rw [List.map_cons, List.getElem?_cons_succ, List.getElem?_map] at h1
        obtain ⟨d', e1, e2⟩ := Option.map_eq_some_iff.mp h1
        cases e2
        obtain ⟨x, e3, r⟩ := h.get e1
        exact ⟨x, [], by rw [List.map_cons, List.getElem?_cons_succ, List.getElem?_map, e3]; rfl, by rw [List.getElem?_cons_succ, List.getElem?_replicate, if_pos (by assumption)], rfl, Rep.kp (Kp.less less) r⟩
      · cases h2
  · cases i with
    | zero => simp at h; exact absurd h hne
    | succ i =>
      rw [List.getElem?_cons_succ, List.getElem?_replicate] at h ⊢
      split at h
      · rw [if_pos (by assumption)]
      · cases h
theorem fd_callS {k n i : Nat} {x y : Str} {p py : Pos} {kd : Kd} {mf : List PyData → Option (PyData × List PyData)} {ma : M (List Opd)} (F : FnD X.prog X.w X.K X.mg X.base k x (kd :: List.replicate n .frz) rk mf) (hr : Room k X.A) (hgd : X.A.guards = some []) (hg : Gl X x)
    (hx : Passes CX0 X E0) (hne : kd ≠ .frz) (hN : X.N[i]? = some y) (hk : ks[i]? = some kd) (hv : Vis X.env.scope y) (ha : AoD X ks ps es ma) (hd : (y == ("__debug__" : Str)) = false := by decide) (hcd : (y == ("__classdict__" : Str)) = false := by decide) (hdb : (x == ("__debug__" : Str)) = false := by decide)
    (he : starEach (.Name y py :: es) X.env = (false, eval (.Name y py) X.env) :: starEach es X.env := by rfl) (hpl : (backTo pos (starEach es X.env)).any (·.1) = false := by rfl) :
    FD X ks ps rk (.Call (.Name x p) (.Name y py :: es) [] pos) (mCallS rk kd mf i n ma) := by
  obtain ⟨f, fd, ps', F1, hm, hkp, hb⟩ := F
  refine PE.imp (pg_call F1 hr hgd hg hm hkp hb hx (pa_cons (pe_var hN hv hd hcd) ha he) hdb he hpl) fun σ H Q q => ?_
  obtain ⟨G, F, env, d, env', I, hm', q⟩ := q
  obtain ⟨s0, os, e1, s, ds, yv, outs, h0, h1, h2, h3, h4, h5, h6, h7, rfl⟩ := mCallS_some hm'
  have hi0 : i < ks.length := (List.getElem?_eq_some_iff.mp hk).1
  obtain ⟨v, _, hσ, _, _⟩ := I.sl i s0 kd h0 hk
  refine ⟨v, hσ, G, F, env, os, e1, I, h1, fun vs F1 H1 S1 I1 r1 => ?_⟩
  obtain ⟨v', Fi, hσ', hF, ho⟩ := I1.sl i s kd h2 hk
  have ev : v' = v := by rw [hσ] at hσ'; exact (Option.some.inj (Option.some.inj hσ')).symm
  subst ev
  have inF : ∀ {a : Addr}, a ∈ Fi → a ∈ F1.flatten := fun {a} h => mem_flat.mpr ⟨i, Fi, hF, h⟩
  -- what the def is to keep apart from
  let Gc : Addr → Prop := fun a => os.any Opd.own = false ∧ OO G F1 a ∧ a ∉ Fi
  have lessC : ∀ a, OO Gc [Fi] a → OO G F1 a := fun a z => by
    rcases z with z | z
    · exact z.2.1
    · exact .inr (inF (by simpa using z))
  have ra : RepA X.K H1 (OO Gc [Fi]) ds vs := by
    cases hb2 : os.any Opd.own with
    | false =>
      have := HoldsA.rep I1 r1 h3
      rw [hb2] at this
      exact RepA.kp (Kp.less lessC) this
    | true =>
      refine HoldsA.apart I1 hF (fun a z => ?_) r1 h3 h5
      rcases z with z | z
      · have z1 : os.any Opd.own = false := z.1
        rw [hb2] at z1; cases z1
      · simpa using z
  have hlv : vs.length = n := by rw [← ra.length]; exact h4
  refine ⟨by simp [hlv], Gc, Fi :: List.replicate n [], s :: ds, d, yv :: outs, own_EI hne (I1.nd.own i Fi hF) (fun a ha => ⟨(I1.tr a (inF ha)).1, fun z => z.2.2 ha⟩) (fun a z => I1.oo a z.2.1) (ho.kp (Kp.less lessC) fun a _ ob e => e) ra h4, h6, fun w F' H' Fr S J o nF hFr => ?_⟩
  have fl : ∀ {a : Addr}, a ∈ (Fi :: List.replicate n ([] : List Addr)).flatten ↔ a ∈ Fi := fun {a} => by
    rw [List.flatten_cons, List.mem_append]
    exact ⟨fun z => z.elim id fun z => absurd z noF_rep, .inl⟩
  obtain ⟨v2, Fi2, e2, eF2, o2⟩ := J.sl 0 yv kd rfl rfl
  have e3 : v2 = v' := by simpa using e2.symm
  subst e3
  have inF' : ∀ {a : Addr}, a ∈ Fi2 → a ∈ F'.flatten := fun {a} h => mem_flat.mpr ⟨0, Fi2, eF2, h⟩
  have more : os.any Opd.own = false → ∀ a, OO (fun a => G a ∨ a ∈ Fr) (F1.set i Fi2) a → OO (fun a => Gc a ∨ a ∈ Fr) F' a := fun hb2 a z => by
    rcases z with (z | z) | z
    · exact .inl (.inl ⟨hb2, .inl z, fun m => (I1.tr a (inF m)).2 z⟩)
    · exact .inl (.inr z)
    · rcases mem_set z with m | ⟨j, Fj, hj, e, m⟩
      · exact .inr (inF' m)
      · exact .inl (.inl ⟨hb2, .inr (mem_flat.mpr ⟨j, Fj, e, m⟩), fun m2 => hj (I1.nd.apart j i Fj Fi a e hF m m2)⟩)
  have ho2 : OwnAt X.K H' (OO (fun a => G a ∨ a ∈ Fr) (F1.set i Fi2)) kd Fi2 yv v2 := by
    cases hb2 : os.any Opd.own with
    | false => exact o2.kp (Kp.less (more hb2)) fun a _ ob e => e
    | true =>
      have := (h7 hb2).2
      subst this
      exact o2
  have newG : ∀ a ∈ Fi2, ¬ (G a ∨ a ∈ Fr) := fun a ha z => by
    rcases z with z | z
    · rcases S.new a (inF' ha) with y | y
      · exact (I1.tr a (inF (fl.mp y))).2 z
      · exact I1.gt a z y
    · exact (J.tr a (inF' ha)).2 (.inr z)
  obtain ⟨I2, S2⟩ := I1.swap2 (G' := fun a => G a ∨ a ∈ Fr) (Fi' := Fi2) (d := yv) hF hk hne hσ (fun a u e n => S.keep a u e fun z => n (fl.mp z)) S.dom S.tup S.frz (J.nd.own 0 Fi2 eF2) (fun a ha => ⟨(S.new a (inF' ha)).imp fl.mp id, (J.tr a (inF' ha)).1, newG a ha⟩)
    (fun a z => z.imp id fun z => (hFr a z).2.imp fl.mp id) (fun a z => z.elim (fun z => S.dom a (I1.gt a z)) fun z => J.gt a (.inr z)) ho2
  refine q w _ H' Fr (S1.trans S2) I2 ?_ nF fun a ha => ⟨fun z => (hFr a ha).2.elim (fun m => (I1.tr a (inF (fl.mp m))).2 z) (I1.gt a z), S1.nw ((hFr a ha).2.imp (fun m => inF (fl.mp m)) id)⟩
  cases hb2 : os.any Opd.own with
  | false => exact o.kp (Kp.less (more hb2)) fun a _ ob e => e
  | true => exact OwnAt.imm (h7 hb2).1 o
theorem ed_callS {k n i : Nat} {x y : Str} {p py : Pos} {kd : Kd} {mf : List PyData → Option (PyData × List PyData)} {ma : M (List Opd)} (F : FnD X.prog X.w X.K X.mg X.base k x (kd :: List.replicate n .frz) rk mf) (hr : Room k X.A) (hgd : X.A.guards = some []) (hg : Gl X x)
    (hx : Passes CX0 X E0) (hne : kd ≠ .frz) (hN : X.N[i]? = some y) (hk : ks[i]? = some kd) (hv : Vis X.env.scope y) (ha : AoD X ks ps es ma) (hd : (y == ("__debug__" : Str)) = false := by decide) (hcd : (y == ("__classdict__" : Str)) = false := by decide) (hdb : (x == ("__debug__" : Str)) = false := by decide)
    (he : starEach (.Name y py :: es) X.env = (false, eval (.Name y py) X.env) :: starEach es X.env := by rfl) (hpl : (backTo pos (starEach es X.env)).any (·.1) = false := by rfl) :
    ED X ks ps (.Call (.Name x p) (.Name y py :: es) [] pos) (mCallS rk kd mf i n ma) := ed_own (fd_callS F hr hgd hg hx hne hN hk hv ha hd hcd hdb he hpl)

/-! ### lists of one's own, changed -/
theorem EI.putL {K : PySem.W.Frag} {G : Addr → Prop} {F : List (List Addr)} {σ : L2.St} {H : Hp} {env : Ev} {i : Nat} {ds : List PyData} (I : EI K ks ps G F σ H env) (h : env[i]? = some (some (.list ds))) (hk : ks[i]? = some .l1) :
    ∃ a xs, σ[i]? = some (some (.ref a)) ∧ H a = some (.lst xs) ∧ RepA K H (OO G F) ds xs ∧ ∀ ds' xs', RepA K H (OO G F) ds' xs' → EI K ks ps G F σ (upd H a (.lst xs')) (env.set i (some (.list ds'))) ∧ Stp F H F (upd H a (.lst xs')) ∧ Kp (OO G F) H (OO G F) (upd H a (.lst xs')) := by
  obtain ⟨v, Fi, hσ, hF, o⟩ := I.sl i _ _ h hk
  obtain ⟨a, xs, ds0, rfl, e, rfl, eH, r⟩ := o
  cases e
  have inF : a ∈ F.flatten := mem_flat.mpr ⟨i, [a], hF, List.mem_singleton.mpr rfl⟩
  refine ⟨a, xs, hσ, eH, r, fun ds' xs' r' => ?_⟩
  have kp : Kp (OO G F) H (OO G F) (upd H a (.lst xs')) := Kp.put (.inr inF) eH
  have eF : F.set i [a] = F := by
    refine List.ext_getElem? fun j => ?_
    rw [List.getElem?_set]
    by_cases hj : i = j
    · subst hj
      rw [if_pos rfl, hF, if_pos (List.getElem?_eq_some_iff.mp hF).1]
    · rw [if_neg hj]
  have := I.swap (H' := upd H a (.lst xs')) (Fi' := [a]) (d := .list ds') hF hk (by decide) hσ (fun b u e n => by rw [upd_ne (fun z => n (by rw [z]; exact List.mem_singleton.mpr rfl))]; exact e) (fun b e => by
      by_cases hb : b = a
      · subst hb; rw [upd_same]; simp
      · rw [upd_ne hb]; exact e) kp.tup kp.frz (List.nodup_cons.mpr ⟨List.not_mem_nil, List.nodup_nil⟩) (fun b hb => ⟨.inl hb, by rw [List.mem_singleton.mp hb, upd_same]; simp⟩)
    (by rw [eF]; exact ⟨a, xs', ds', rfl, rfl, rfl, upd_same, RepA.kp kp r'⟩)
  rw [eF] at this
  exact ⟨this.1, this.2, kp⟩
def lstAt (i : Nat) (e : Ev) : Option (List PyData) := match e[i]? with
  | some (some (.list ds)) => some ds
  | _ => none
theorem lstAt_some {i : Nat} {e : Ev} {ds : List PyData} (h : lstAt i e = some ds) : e[i]? = some (some (.list ds)) := by
  unfold lstAt at h
  split at h
  · cases h; assumption
  · cases h
/-- x.append(e) -/
def mApp (i : Nat) (m : M PyData) : M PyData := fun e => match lstAt i e with
  | none => none
  | some _ => match m e with
    | none => none
    | some (y, e1) => match lstAt i e1 with
      | none => none
      | some ds => if ds.length ≤ 1000000 then some (.none, e1.set i (some (.list (ds ++ [y])))) else none
theorem ed_append {i : Nat} {x : Str} {m : M PyData} {apos : Pos} (hN : X.N[i]? = some x) (hk : ks[i]? = some .l1) (he : ED X ks ps e m) (hv : Vis X.env.scope x := by first | exact Or.inl rfl | exact Or.inr (Or.inl rfl) | exact Or.inr (Or.inr rfl)) (hd : (x == ("__debug__" : Str)) = false := by decide)
    (hcd : (x == ("__classdict__" : Str)) = false := by decide) (hs : starEach [e] X.env = (false, eval e X.env) :: starEach [] X.env := by rfl)
    (hfew : ((backTo pos (starEach [e] X.env)).all (fun x => !x.1) && (backToKw pos (keywordEach [] X.env)).all (fun x => x.1.isSome) && decide ([e].length + ([] : List Keyword).length + (if ([] : List Keyword).isEmpty then 0 else 1) < 30)) = true := by rfl)
    (hline : (apos.endLine == pos.line) = true := by rfl) (hbase : attributeBase (.Name x pos') "append" X.env (eval (.Name x pos') X.env) = eval (.Name x pos') X.env := by rfl) : ED X ks ps (.Call (.Attribute (.Name x pos') "append" apos) [e] [] pos) (mApp i m) :=
  PE.imp (pe_bm PySem.F.plainAttrs_list PySem.F.slot_list_append PySem.F.type_list_append mt_append (pe_var hN hv hd hcd) (pa_cons he pa_nil hs) hbase hfew hline hs) fun σ H Q q => by
    obtain ⟨G, F, env, d, env', I, hm, q⟩ := q
    unfold mApp at hm
    split at hm
    · cases hm
    · rename_i ds0 h0
      split at hm
      · cases hm
      · rename_i y e1 h1
        split at hm
        · cases hm
        · rename_i ds h2
          split at hm
          · cases hm
            rename_i hl
            obtain ⟨a, xs, hσ, eH, r, _⟩ := I.putL (lstAt_some h0) hk
            refine ⟨_, hσ, .inl ⟨rfl, xs, .inl (.inl eH)⟩, G, F, env, y, e1, I, h1, fun w F1 H1 S1 I1 r1 => ?_⟩
            obtain ⟨a', xs', hσ', eH', r', put⟩ := I1.putL (lstAt_some h2) hk
            have ea : a' = a := by rw [hσ] at hσ'; cases hσ'; rfl
            subst ea
            obtain ⟨J, S, kp⟩ := put (ds ++ [y]) (xs' ++ [w]) (r'.append (.cons r1 .nil))
            refine ⟨a', xs', w, rfl, rfl, eH', Nat.lt_of_le_of_lt (by rw [← r'.length]; exact hl) (by rw [sizeLine_eq]; decide), q .non F1 _ (S1.trans S) J rep_non⟩
          · cases hm
end
end DL

/-! DLH: the law's source. -/
namespace DL
open PySem PySem.Spec PyProof.Rows L2
section
variable {rk : Kd} {X : Cx} {ks : List Kd} {ps : List (Nat × V)} {a b c e o : Expr} {es : List Expr} {pos pos' : Pos}

/-- what a slot owns is given away whole -/
theorem EI.giveO {K : PySem.W.Frag} {G : Addr → Prop} {F : List (List Addr)} {σ : L2.St} {H : Hp} {env : Ev} {i : Nat} {kd : Kd} {d : PyData} (I : EI K ks ps G F σ H env) (h1 : env[i]? = some (some d)) (hk : ks[i]? = some kd) :
    ∃ v Fi, σ[i]? = some (some v) ∧ F[i]? = some Fi ∧ EI K ks ps (fun a => G a ∨ a ∈ Fi) (F.set i []) σ H (env.set i none) ∧ OwnAt K H (OO (fun a => G a ∨ a ∈ Fi) (F.set i [])) kd Fi d v := by
  have hi : i < ks.length := (List.getElem?_eq_some_iff.mp hk).1
  obtain ⟨v, Fi, e1, e2, o⟩ := I.sl i d _ h1 hk
  have inF : ∀ {a : Addr}, a ∈ Fi → a ∈ F.flatten := fun {a} h => mem_flat.mpr ⟨i, Fi, e2, h⟩
  have less : ∀ a, OO (fun a => G a ∨ a ∈ Fi) (F.set i []) a → OO G F a := fun a z => by
    rcases z with (z | z) | z
    · exact .inl z
    · exact .inr (inF z)
    · rcases mem_set z with h | ⟨j, Fj, hj, e, m⟩
      · cases h
      · exact .inr (mem_flat.mpr ⟨j, Fj, e, m⟩)
  refine ⟨v, Fi, e1, e2, ⟨by rw [List.length_set]; exact I.lF, by rw [List.length_set]; exact I.lE, I.lS, I.nd.set List.nodup_nil (fun a ha => nomatch ha), fun a ha => ?_, fun a z => z.elim (I.gt a) fun z => (I.tr a (inF z)).1, fun j d' kd' h3 h4 => ?_, I.pn, fun j h => ?_⟩, o.kp (Kp.less less) fun a _ ob e => e⟩
  · rcases mem_set ha with h | ⟨j, Fj, hj, e, m⟩
    · cases h
    · have t := I.tr a (mem_flat.mpr ⟨j, Fj, e, m⟩)
      exact ⟨t.1, fun z => z.elim t.2 fun z => hj (I.nd.apart j i Fj Fi a e e2 m z)⟩
  · by_cases hj : j = i
    · subst hj
      rw [List.getElem?_set_self (by rw [I.lE]; exact hi)] at h3
      exact nomatch (Option.some.inj h3)
    · rw [List.getElem?_set_ne (Ne.symm hj)] at h3
      obtain ⟨w, Fj, g1, g2, o'⟩ := I.sl j d' kd' h3 h4
      exact ⟨w, Fj, g1, by rw [List.getElem?_set_ne (Ne.symm hj)]; exact g2, o'.kp (Kp.less less) fun a _ ob e => e⟩
  · by_cases hj : j = i
    · subst hj
      rw [List.getElem?_set_self (by rw [I.lF]; exact hi)]
    · rw [List.getElem?_set_ne (Ne.symm hj)]
      exact I.fz j h
/-- xs[::-1], new -/
theorem fd_revL {k : Nat} {p1 p2 p3 : Pos} {m : M Opd} (ha : RD X ks ps a m) : FD X ks ps .l1 (.Subscript a (.Slice none none (some (.UnaryOp .USub (.Constant (.int 1) k p1) p2)) p3) pos) (mUn revD m) :=
  PE.imp (pe_revL ha) fun σ H Q q => by
    obtain ⟨G, F, env, d, env', I, hm, q⟩ := q
    obtain ⟨ox, e1, h1, h2⟩ := bnd_some hm
    obtain ⟨rfl, dx, g1, g3, gi⟩ := rs1_some h2
    refine ⟨G, F, env, ox, env', I, h1, fun v F1 H1 S1 I1 r1 => ?_⟩
    have r := HoldsO.rep I1 r1 g1
    unfold revD at g3
    split at g3
    · cases g3
      simp only [Rep] at r
      obtain ⟨p, vs, rfl, t1, a1⟩ := r
      have nown : ox.own = false := by
        have z := gi
        simpa [imm] using z
      rw [nown] at a1
      refine ⟨p, vs, rfl, t1.sq, fun l hl => ?_⟩
      refine q _ F1 _ [l] (S1.trans (.same (same_upd hl))) (fresh_own I1 hl) ⟨l, _, _, rfl, rfl, rfl, upd_same, RepA.kp (fresh_kp hl) a1.reverse⟩ (List.nodup_cons.mpr ⟨List.not_mem_nil, List.nodup_nil⟩) fun a ha => ?_
      rw [List.mem_singleton.mp ha]
      exact ⟨fun z => I1.gt l z hl, .inr (S1.back hl)⟩
    · cases g3

/-! ### the source -/
def srcL (c : Addr) (left mixed turn : Int) : List (L2.Key × V) := [(Sum.inr "cells", .ref c), (Sum.inr "left", .int left), (Sum.inr "mixed", .int mixed), (Sum.inr "turn", .int turn)]
/-- what is read of a datum as a source -/
def srcOf : PyData → Option (List Int × Int × Int × Int)
  | .dict [(.str a, .list cs), (.str b, .int l), (.str c, .int m), (.str d, .int t)] => if a = "cells" ∧ b = "left" ∧ c = "mixed" ∧ d = "turn" then (intsOf cs).map fun ns => (ns, l, m, t) else none
  | _ => none
theorem srcOf_srcD (cs : List Int) (l m t : Int) : srcOf (srcD cs l m t) = some (cs, l, m, t) := by
  unfold srcOf srcD
  simp [intsOf_map]
theorem intsOf_eq : ∀ {ds : List PyData} {ns : List Int}, intsOf ds = some ns → ds = ns.map PyData.int
  | [], ns, h => by cases h; rfl
  | d :: ds, ns, h => by
    cases d <;> unfold intsOf at h <;> try cases h
    split at h
    · rename_i ns' g
      cases h
      rw [List.map_cons, ← intsOf_eq g]
    · cases h
theorem srcOf_eq {d : PyData} {cs : List Int} {l m t : Int} (h : srcOf d = some (cs, l, m, t)) : d = srcD cs l m t := by
  unfold srcOf at h
  split at h
  · split at h
    · rename_i z
      obtain ⟨ns, g, e⟩ := Option.map_eq_some_iff.mp h
      cases e
      obtain ⟨rfl, rfl, rfl, rfl⟩ := z
      unfold srcD
      rw [intsOf_eq g]
    · cases h
  · cases h
def srcAt (i : Nat) (e : Ev) : Option (List Int × Int × Int × Int) := match e[i]? with
  | some (some d) => srcOf d
  | _ => none
/-- so many turns at most, where the source's cells are taken one by one -/
def srcFuel (i : Nat) (e : Ev) : Nat := match srcAt i e with
  | some s => s.1.length + 1
  | none => 0
theorem srcAt_some {i : Nat} {e : Ev} {cs : List Int} {l m t : Int} (h : srcAt i e = some (cs, l, m, t)) : e[i]? = some (some (srcD cs l m t)) := by
  unfold srcAt at h
  split at h
  · rename_i d hd
    rw [hd, srcOf_eq h]
  · cases h
theorem EI.src {K : PySem.W.Frag} {G : Addr → Prop} {F : List (List Addr)} {σ : L2.St} {H : Hp} {env : Ev} {i : Nat} {cs : List Int} {l m t : Int} (I : EI K ks ps G F σ H env) (h : env[i]? = some (some (srcD cs l m t))) (hk : ks[i]? = some .src) :
    ∃ a c, σ[i]? = some (some (.ref a)) ∧ H a = some (.dK (srcL c l m t)) ∧ H c = some (.lst (cs.map V.int)) ∧
      (∀ cs', EI K ks ps G F σ (upd H c (.lst (cs'.map V.int))) (env.set i (some (srcD cs' l m t))) ∧ Stp F H F (upd H c (.lst (cs'.map V.int)))) ∧
      (∀ l' m' t', EI K ks ps G F σ (upd H a (.dK (srcL c l' m' t'))) (env.set i (some (srcD cs l' m' t'))) ∧ Stp F H F (upd H a (.dK (srcL c l' m' t')))) := by
  obtain ⟨v, Fi, hσ, hF, o⟩ := I.sl i _ _ h hk
  obtain ⟨a, c, cs0, l0, m0, t0, rfl, e, rfl, eH, eC⟩ := o
  have e' := congrArg srcOf e
  rw [srcOf_srcD, srcOf_srcD] at e'
  obtain ⟨rfl, rfl, rfl, rfl⟩ : cs = cs0 ∧ l = l0 ∧ m = m0 ∧ t = t0 := by simpa using e'
  have hac : a ≠ c := fun z => by rw [z, eC] at eH; cases eH
  have inF : ∀ {b : Addr}, b ∈ [a, c] → b ∈ F.flatten := fun {b} hb => mem_flat.mpr ⟨i, [a, c], hF, hb⟩
  have nd : [a, c].Nodup := by simp [hac]
  have eF : F.set i [a, c] = F := by
    refine List.ext_getElem? fun j => ?_
    rw [List.getElem?_set]
    by_cases hj : i = j
    · subst hj
      rw [if_pos rfl, hF, if_pos (List.getElem?_eq_some_iff.mp hF).1]
    · rw [if_neg hj]
  have go : ∀ (p : Addr) (u : HO) (d : PyData), p ∈ [a, c] → (∀ xs, H p ≠ some (.tup xs)) → (∀ o u, H p ≠ some (.frz o u)) → OwnAt K (upd H p u) (OO G F) .src [a, c] d (.ref a) → EI K ks ps G F σ (upd H p u) (env.set i (some d)) ∧ Stp F H F (upd H p u) := by
    intro p u d hp n1 n2 ho
    have ne : ∀ {b : Addr} {o : HO}, H b = some o → b ∉ [a, c] → upd H p u b = some o := fun {b o} e n => by rw [upd_ne (fun z => n (by rw [z]; exact hp))]; exact e
    have := I.swap (H' := upd H p u) (Fi' := [a, c]) (d := d) hF hk (by decide) hσ (fun b o e n => ne e n) (fun b e => by
      by_cases hb : b = p
      · subst hb; rw [upd_same]; simp
      · rw [upd_ne hb]; exact e) (fun b xs e => by
      by_cases hb : b = p
      · subst hb; exact absurd e (n1 xs)
      · rw [upd_ne hb]; exact e) (fun b o u' e => by
      by_cases hb : b = p
      · subst hb; exact absurd e (n2 o u')
      · rw [upd_ne hb]; exact e) nd (fun b hb => ⟨.inl hb, by
      by_cases hb' : b = p
      · subst hb'; rw [upd_same]; simp
      · rw [upd_ne hb']; exact (I.tr b (inF hb)).1⟩) (by rw [eF]; exact ho)
    rw [eF] at this
    exact this
  refine ⟨a, c, hσ, eH, eC, fun cs' => go c _ _ (by simp) (by rw [eC]; intro _ z; cases z) (by rw [eC]; intro _ _ z; cases z) ?_, fun l' m' t' => go a _ _ (by simp) (by rw [eH]; intro _ z; cases z) (by rw [eH]; intro _ _ z; cases z) ?_⟩
  · exact ⟨a, c, cs', l, m, t, rfl, rfl, rfl, by rw [upd_ne hac]; exact eH, upd_same⟩
  · exact ⟨a, c, cs, l', m', t', rfl, rfl, rfl, upd_same, by rw [upd_ne (Ne.symm hac)]; exact eC⟩

inductive SKey where | left | mixed | turn
def SKey.str : SKey → Str
  | .left => "left"
  | .mixed => "mixed"
  | .turn => "turn"
def SKey.get : SKey → List Int × Int × Int × Int → Int
  | .left, s => s.2.1
  | .mixed, s => s.2.2.1
  | .turn, s => s.2.2.2
def SKey.put : SKey → Int → List Int × Int × Int × Int → List Int × Int × Int × Int
  | .left, x, s => (s.1, x, s.2.2.1, s.2.2.2)
  | .mixed, x, s => (s.1, s.2.1, x, s.2.2.2)
  | .turn, x, s => (s.1, s.2.1, s.2.2.1, x)
def srcDt (s : List Int × Int × Int × Int) : PyData := srcD s.1 s.2.1 s.2.2.1 s.2.2.2
theorem SKey.val {c : Addr} {l m t : Int} (k : SKey) (cs : List Int) : valV (srcL c l m t) (Sum.inr k.str) = some (.int (k.get (cs, l, m, t))) := by
  cases k <;> rfl
theorem src_cells {c : Addr} {l m t : Int} : valV (srcL c l m t) (Sum.inr "cells") = some (.ref c) := rfl
theorem SKey.putK {c : Addr} {l m t x : Int} (k : SKey) (cs : List Int) : L2.putK (srcL c l m t) (Sum.inr k.str) (.int x) = srcL c (k.put x (cs, l, m, t)).2.1 (k.put x (cs, l, m, t)).2.2.1 (k.put x (cs, l, m, t)).2.2.2 := by
  cases k <;> rfl
/-- source['left'] -/
def mSrcGet (i : Nat) (k : SKey) : M PyData := fun e => match srcAt i e with
  | some s => some (.int (k.get s), e)
  | none => none
theorem ed_srcGet {i : Nat} {x : Str} {kc : Nat} {p1 p2 : Pos} (k : SKey) (hu : X.A.units + 1 < cLine) (hN : X.N[i]? = some x) (hk : ks[i]? = some .src) (hv : Vis X.env.scope x := by first | exact Or.inl rfl | exact Or.inr (Or.inl rfl) | exact Or.inr (Or.inr rfl))
    (hd : (x == ("__debug__" : Str)) = false := by decide) (hcd : (x == ("__classdict__" : Str)) = false := by decide) : ED X ks ps (.Subscript (.Name x p1) (.Constant (.str k.str) kc p2) pos) (mSrcGet i k) :=
  PE.imp (pe_dget hu (pe_var hN hv hd hcd) pe_str (by exact fun _ _ => rfl)) fun σ H Q q => by
    obtain ⟨G, F, env, d, env', I, hm, q⟩ := q
    unfold mSrcGet at hm
    split at hm
    · rename_i s hs
      cases hm
      obtain ⟨cs, l, m, t⟩ := s
      obtain ⟨a, c, hσ, eH, _, _, _⟩ := I.src (srcAt_some hs) hk
      exact ⟨_, hσ, a, _, rfl, .inl ⟨_, Sum.inr k.str, .inl eH, rfl, (k.val cs).symm⟩, q _ F H .refl I rep_int⟩
    · cases hm

/-- source['left'] = e -/
def sSrcPut (i : Nat) (k : SKey) (m : M PyData) : B := fun e => match m e with
  | some (.int x, e1) => match srcAt i e1 with
    | some s => some (.nx (e1.set i (some (srcDt (k.put x s)))))
    | none => none
  | _ => none
theorem sd_srcPut {i : Nat} {x : Str} {kc : Nat} {p1 p2 p3 : Pos} {m : M PyData} (k : SKey) (hu : X.A.units + 1 < cLine) (hN : X.N[i]? = some x) (hk : ks[i]? = some .src) (he : ED X ks ps e m) (hv : Vis X.env.scope x := by first | exact Or.inl rfl | exact Or.inr (Or.inl rfl) | exact Or.inr (Or.inr rfl))
    (hd : (x == ("__debug__" : Str)) = false := by decide) (hcd : (x == ("__classdict__" : Str)) = false := by decide) (hs : swapsWith e (some (.Subscript (.Name x p1) (.Constant (.str k.str) kc p2) p3)) pos.line X.env = pure false := by rfl) :
    SD X ks ps rk (.Assign [.Subscript (.Name x p1) (.Constant (.str k.str) kc p2) p3] e pos) (sSrcPut i k m) :=
  PS.imp (ps_dput hu (pe_var hN hv hd hcd) pe_str he hs) fun D σ H q => by
    obtain ⟨G, F, env, out, I, hm, q⟩ := q
    unfold sSrcPut at hm
    split at hm
    · rename_i y e1 h1
      split at hm
      · rename_i s hs2
        cases hm
        refine ⟨G, F, env, _, e1, I, h1, fun v F1 H1 S1 I1 r1 => ?_⟩
        obtain ⟨cs, l, m, t⟩ := s
        obtain ⟨a, c, hσ, eH, _, _, put⟩ := I1.src (srcAt_some hs2) hk
        obtain ⟨J, S⟩ := put (k.put y (cs, l, m, t)).2.1 (k.put y (cs, l, m, t)).2.2.1 (k.put y (cs, l, m, t)).2.2.2
        simp only [Rep] at r1
        subst r1
        refine ⟨_, hσ, a, _, rfl, .inl ⟨_, Sum.inr k.str, eH, rfl, by rw [sizeLine_eq]; exact (Nat.le_of_ble_eq_true rfl : 5 ≤ 16777216), rfl⟩, ?_⟩
        rw [k.putK cs]
        have ec : (k.put y (cs, l, m, t)).1 = cs := by cases k <;> rfl
        have e2 : srcDt (k.put y (cs, l, m, t)) = srcD cs (k.put y (cs, l, m, t)).2.1 (k.put y (cs, l, m, t)).2.2.1 (k.put y (cs, l, m, t)).2.2.2 := by unfold srcDt; rw [ec]
        rw [e2] at q
        exact q _ F1 _ (S1.trans S) J
      · cases hm
    · cases hm
/-- len(source['cells']) -/
def mSrcLen (i : Nat) : M PyData := fun e => match srcAt i e with
  | some s => some (.int (s.1.length : Int), e)
  | none => none
theorem ed_srcLen {i : Nat} {x : Str} {kc : Nat} {p1 p2 p3 p4 : Pos} (hu : X.A.units + 1 < cLine) (hg : Gl X "len") (hm : X.mg "len" = none) (hN : X.N[i]? = some x) (hk : ks[i]? = some .src) (hv : Vis X.env.scope x := by first | exact Or.inl rfl | exact Or.inr (Or.inl rfl) | exact Or.inr (Or.inr rfl))
    (hd : (x == ("__debug__" : Str)) = false := by decide) (hcd : (x == ("__classdict__" : Str)) = false := by decide)
    (he : starEach [.Subscript (.Name x p1) (.Constant (.str "cells") kc p2) p3] X.env = [(false, eval (.Subscript (.Name x p1) (.Constant (.str "cells") kc p2) p3) X.env)] := by rfl) :
    ED X ks ps (.Call (.Name "len" p4) [.Subscript (.Name x p1) (.Constant (.str "cells") kc p2) p3] [] pos) (mSrcLen i) :=
  PE.imp (pe_callB call_len hg hm boot_len (pa_cons (pe_dget hu (pe_var hN hv hd hcd) pe_str (by exact fun _ _ => rfl)) pa_nil he) (by decide) (by decide) he) fun σ H Q q => by
    obtain ⟨G, F, env, d, env', I, hm, q⟩ := q
    unfold mSrcLen at hm
    split at hm
    · rename_i s hs
      cases hm
      obtain ⟨cs, l, m, t⟩ := s
      obtain ⟨a, c, hσ, eH, eC, _, _⟩ := I.src (srcAt_some hs) hk
      refine ⟨_, hσ, a, _, rfl, .inl ⟨_, Sum.inr "cells", .inl eH, rfl, src_cells.symm⟩, _, _, rfl, .inl ⟨_, .inl (.inl eC), rfl⟩, ?_⟩
      rw [List.length_map]
      exact q _ F H .refl I rep_int
    · cases hm
/-- source['cells'].pop() -/
def mSrcPop (i : Nat) : M PyData := fun e => match srcAt i e with
  | some (cs, l, m, t) => match cs.getLast? with
    | some x => some (.int x, e.set i (some (srcD cs.dropLast l m t)))
    | none => none
  | none => none
theorem ed_srcPop {i : Nat} {x : Str} {kc : Nat} {p1 p2 p3 apos : Pos} (hu : X.A.units + 1 < cLine) (hN : X.N[i]? = some x) (hk : ks[i]? = some .src) (hv : Vis X.env.scope x := by first | exact Or.inl rfl | exact Or.inr (Or.inl rfl) | exact Or.inr (Or.inr rfl))
    (hd : (x == ("__debug__" : Str)) = false := by decide) (hcd : (x == ("__classdict__" : Str)) = false := by decide) (hline : (apos.endLine == pos.line) = true := by rfl)
    (hbase : attributeBase (.Subscript (.Name x p1) (.Constant (.str "cells") kc p2) p3) "pop" X.env (eval (.Subscript (.Name x p1) (.Constant (.str "cells") kc p2) p3) X.env) = eval (.Subscript (.Name x p1) (.Constant (.str "cells") kc p2) p3) X.env := by rfl) :
    ED X ks ps (.Call (.Attribute (.Subscript (.Name x p1) (.Constant (.str "cells") kc p2) p3) "pop" apos) [] [] pos) (mSrcPop i) :=
  PE.imp (pe_bm0 PySem.F.plainAttrs_list PySem.F.slot_list_pop PySem.F.type_list_pop mt_pop (pe_dget hu (pe_var hN hv hd hcd) pe_str (by exact fun _ _ => rfl)) hbase hline) fun σ H Q q => by
    obtain ⟨G, F, env, d, env', I, hm, q⟩ := q
    unfold mSrcPop at hm
    split at hm
    · rename_i cs l m t hs
      split at hm
      · rename_i y hy
        cases hm
        obtain ⟨a, c, hσ, eH, eC, put, _⟩ := I.src (srcAt_some hs) hk
        obtain ⟨J, S⟩ := put cs.dropLast
        rw [List.map_dropLast] at J S
        refine ⟨_, hσ, a, _, rfl, .inl ⟨_, Sum.inr "cells", .inl eH, rfl, src_cells.symm⟩, .inl ⟨rfl, _, .inl (.inl eC)⟩, c, _, .int y, rfl, rfl, eC, ?_, q _ F _ S J rep_int⟩
        rw [List.length_map, List.getElem?_map]
        rw [List.getLast?_eq_getElem?] at hy
        rw [hy]; rfl
      · cases hm
    · cases hm
/-- {'cells': .., 'left': .., 'mixed': .., 'turn': ..} -/
def mSrcNew (m0 m1 m2 m3 : M PyData) : M PyData := bnd m0 fun d0 => bnd m1 fun d1 => bnd m2 fun d2 => bnd m3 fun d3 => lft (match d0, d1, d2, d3 with
  | .list cs, .int l, .int m, .int t => (intsOf cs).map fun ns => srcD ns l m t
  | _, _, _, _ => none)
theorem fd_srcNew {m0 m1 m2 m3 : M PyData} {e0 e1 e2 e3 : Expr} {k0 k1 k2 k3 : Nat} {p0 p1 p2 p3 : Pos} (h0 : FD X ks ps .l1 e0 m0) (h1 : ED X ks ps e1 m1) (h2 : ED X ks ps e2 m2) (h3 : ED X ks ps e3 m3) :
    FD X ks ps .src (.Dict [some (.Constant (.str "cells") k0 p0), some (.Constant (.str "left") k1 p1), some (.Constant (.str "mixed") k2 p2), some (.Constant (.str "turn") k3 p3)] [e0, e1, e2, e3] pos) (mSrcNew m0 m1 m2 m3) :=
  PE.imp (pe_disp (pps_cons pe_str h0 (pps_cons pe_str h1 (pps_cons pe_str h2 (pps_cons pe_str h3 pps_nil)))) rfl rfl (fun z => nomatch z) (Nat.le_of_ble_eq_true rfl)) fun σ H Q q => by
    obtain ⟨G, F, env, d, env', I, hm, q⟩ := q
    obtain ⟨d0, v0, g0, hma⟩ := bnd_some hm
    obtain ⟨d1, v1, g1, hmb⟩ := bnd_some hma
    obtain ⟨d2, v2, g2, hmc⟩ := bnd_some hmb
    obtain ⟨d3, v3, g3, hmd⟩ := bnd_some hmc
    obtain ⟨hm2, ev⟩ := lft_some hmd
    subst ev
    split at hm2
    · rename_i cs l m t
      obtain ⟨ns, hns, hd⟩ := Option.map_eq_some_iff.mp hm2
      subst hd
      have hcs := intsOf_eq hns
      subst hcs
      intro p hp
      have I0 := fresh_own (u := .dK []) I hp
      refine ⟨_, _, _, _, _, I0, g0, fun w0 F0 H0 Fr S0 J0 o0 n0 hF0 => ?_⟩
      refine ⟨_, _, _, _, _, J0, g1, fun w1 F1 H1 S1 J1 r1 => ?_⟩
      refine ⟨_, _, _, _, _, J1, g2, fun w2 F2 H2 S2 J2 r2 => ?_⟩
      refine ⟨_, _, _, _, _, J2, g3, fun w3 F3 H3 S3 J3 r3 => ?_⟩
      obtain ⟨c, xs, ds, rfl, e, rfl, eC, ra⟩ := o0
      cases e
      simp only [Rep] at r1 r2 r3
      subst r1 r2 r3
      have hx := repA_ints ra
      subst hx
      have S03 := (S1.trans S2).trans S3
      have notp : p ∉ F.flatten := fun z => (I.tr p z).1 hp
      have eP0 : H0 p = some (.dK []) := S0.keep p _ upd_same notp
      have cne : c ≠ p := fun z => by rw [z] at eC; rw [eP0] at eC; cases eC
      have cF : c ∉ F0.flatten := fun z => (J0.tr c z).2 (.inr (by simp))
      have pF : p ∉ F0.flatten := fun z => (J0.tr p z).2 (.inl (.inr (by simp)))
      have eC3 : H3 c = some (.lst (ns.map V.int)) := S03.keep c _ eC cF
      have eP3 : H3 p = some (.dK []) := S03.keep p _ eP0 pF
      refine ⟨eP3, [(Sum.inr "cells", .ref c), (Sum.inr "left", .int l), (Sum.inr "mixed", .int m), (Sum.inr "turn", .int t)], rfl, (Nat.le_of_ble_eq_true rfl : 4 ≤ 15), ?_⟩
      have em : mergeK [] [(Sum.inr "cells", V.ref c), (Sum.inr "left", .int l), (Sum.inr "mixed", .int m), (Sum.inr "turn", .int t)] = srcL c l m t := rfl
      rw [em]
      have hFc := hF0 c (by simp)
      refine q (.ref p) F3 _ [p, c] (((Stp.same (same_upd (o := .dK []) hp)).trans (S0.trans S03)).put hp) ((J3.put (D := p) (o := .dK (srcL c l m t)) (.inl (.inr (by simp))) eP3).lessG fun a z => ?_) ⟨p, c, ns, l, m, t, rfl, rfl, rfl, upd_same, by rw [upd_ne cne]; exact eC3⟩ (by simp [Ne.symm cne]) fun a ha => ?_
      · rcases z with z | z
        · exact .inl (.inl z)
        · rcases List.mem_cons.mp z with z | z
          · exact .inl (.inr (by simp [z]))
          · exact .inr z
      · rcases List.mem_cons.mp ha with z | z
        · subst z
          exact ⟨fun z => I.gt a z hp, .inr hp⟩
        · have z := List.mem_singleton.mp z
          subst z
          exact ⟨fun z => hFc.1 (.inl z), hFc.2.imp id fun z => by rw [upd_ne cne] at z; exact z⟩
    · cases hm2
end
end DL

/-! DLI: a law's own head, for a def over data. -/
namespace DL
open PySem PySem.Spec PyProof.Rows L2

/-- what the law's def is asked: each script's data gives True -/
def Yes (n : Nat) (mf : List PyData → Option (PyData × List PyData)) : Prop := ∀ ns : List Int, ns.length ≤ n → (mf [.list (ns.map PyData.int)]).map (·.1) = some (.bool true)

theorem repA_mapInt {K : PySem.W.Frag} {H : Hp} {O : Addr → Prop} : ∀ ns : List Int, RepA K H O (ns.map PyData.int) (ns.map V.int)
  | [] => .nil
  | n :: ns => .cons rep_int (repA_mapInt ns)
theorem spD_yes {K : PySem.W.Frag} {n : Nat} {mf : List PyData → Option (PyData × List PyData)} (yes : Yes n mf) {H : Hp} {pa : Addr} {ns : List Int} (hn : ns.length ≤ n) (hl : LstAt K H (fun _ => False) pa (ns.map V.int)) : spD K [.frz] .frz mf [.ref pa] H (fun v _ => v = .bl true) fun _ _ _ => False := by
  have hy := yes ns hn
  obtain ⟨⟨d, outs⟩, h1, h2⟩ := Option.map_eq_some_iff.mp hy
  dsimp only at h2
  subst h2
  have h0 : ∀ a, ¬ OO (fun _ => False) [([] : List Addr)] a := fun a z => by
    rcases z with z | z
    · exact z
    · simp at z
  have I : EI K [.frz] [] (fun _ => False) [[]] ([V.ref pa].map some) H ([PyData.list (ns.map PyData.int)].map some) := by
    refine ⟨rfl, rfl, rfl, ⟨fun i Fi e => ?_, fun i j Fi Fj a e1 e2 m1 m2 => ?_⟩, fun a ha => ?_, fun a z => z.elim, fun i d kd e1 e2 => ?_, (fun p hp => nomatch hp), fun i e => ?_⟩
    · cases i with
      | zero => simp at e; subst e; exact List.nodup_nil
      | succ i => simp at e
    · cases i with
      | zero => simp at e1; subst e1; cases m1
      | succ i => simp at e1
    · simp at ha
    · cases i with
      | zero =>
        simp at e1 e2
        subst e1 e2
        refine ⟨.ref pa, [], rfl, rfl, rfl, ?_⟩
        simp only [Rep]
        exact ⟨pa, _, rfl, hl.kp (Kp.less fun a z => (h0 a z).elim), repA_mapInt ns⟩
      | succ i => simp at e1
    · cases i with
      | zero => rfl
      | succ i => simp at e
  refine ⟨rfl, fun _ => False, [[]], _, .bool true, outs, I, h1, fun v F' H' Fr _ _ o _ _ => ?_⟩
  have r := o.2
  simpa only [Rep] using r

theorem headG {P : Program} {w : World} {K : PySem.W.Frag} {mg mb : Str → Option Value} {k : Nat} {pa : Addr} {x : Str} {s₁ : Shared} {us : List Value} {ns : List Int} {mf : List PyData → Option (PyData × List PyData)} {f : Addr} {n : Nat}
    (inK : K.In s₁.heap) (nsM : s₁.heap.Ns mainGlobals mg) (nsB : s₁.heap.Ns builtinsNs mb) (bOk : ∀ y : Str, y ≠ "__name__" → mb y = bootBuiltins y) (free : s₁.heap.NoLimit) (bare : s₁.gens = #[])
    (hp : s₁.heap.get? pa = some { cls := .type "list", data := .seq us.toArray }) (intsA : IntsAre us ns) (hn : ns.length ≤ n) (hsz : ns.length ≤ sizeLine) (room : Room k callerA)
    (hf : mg x = some (.ref f)) (F : ∀ base : Heap, K.In base → base.Ns mainGlobals mg → FnD P w K mg base k x [.frz] .frz mf) (yes : Yes n mf) :
    codeAny (model P w) callerA (.call (.ref f) ⟨[.ref pa], []⟩) (fun r s' => r = .ok (.ret (.bool true)) ∧ OldK s₁.heap s'.heap ∧ s'.os = s₁.os ∧ AllBare s'.gens) s₁ := by
  have relV := vals_ints intsA
  have lenU := intsA.length
  have main : ∀ H : Hp, (∀ b, H b = none ∨ ∃ ob xs, H b = some (.frz ob (.lst xs))) → LstAt K H (fun _ => False) pa (ns.map V.int) → HOk P w H s₁.heap → (∀ b, H b ≠ none → b = pa) → (H pa ≠ none → K.lookup pa = none) →
      codeAny (model P w) callerA (.call (.ref f) ⟨[.ref pa], []⟩) (fun r s' => r = .ok (.ret (.bool true)) ∧ OldK s₁.heap s'.heap ∧ s'.os = s₁.os ∧ AllBare s'.gens) s₁ := by
    intro H onlyS hS okH atP notK
    have inBase : ∀ {b : Addr} {ob : Obj}, s₁.heap.get? b = some ob → H b = none → (hidT s₁.heap H).get? b = some ob := fun h1 h2 => hidT_get h1 h2
    have dictFree : ∀ {b : Addr} {ob : Obj} {es : Array DictEntry} {ep : Nat}, s₁.heap.get? b = some ob → ob.data = .dict es ep → H b = none := by
      intro b ob es ep h1 h2
      cases q : H b with
      | none => rfl
      | some u =>
        obtain rfl := atP b (by rw [q]; exact fun z => nomatch z)
        rw [hp] at h1
        cases h1
        have h3 : Data.seq us.toArray _ = Data.dict es ep := h2
        cases h3
    have nsKeep : ∀ {b : Addr} {m : Str → Option Value}, s₁.heap.Ns b m → (hidT s₁.heap H).Ns b m := by
      rintro b m ⟨ob, es, ep, h1, h2, h3⟩
      exact ⟨ob, es, ep, inBase h1 (dictFree h1 h2), h2, h3⟩
    have inKb : K.In (hidT s₁.heap H) := by
      intro b ob h1
      refine inBase (inK b ob h1) ?_
      cases q : H b with
      | none => rfl
      | some u =>
        obtain rfl := atP b (by rw [q]; exact fun z => nomatch z)
        rw [notK (by rw [q]; exact fun z => nomatch z)] at h1
        cases h1
    have theMod : Mod K mg (hidT s₁.heap H) := by
      refine ⟨inKb, nsKeep nsM, ⟨mb, nsKeep nsB, bOk⟩, ?_⟩
      obtain ⟨mc, h1, h2⟩ := free
      exact ⟨mc, nsKeep h1, h2⟩
    have env0 : Env0 P w K mg (hidT s₁.heap H) callerA [] s₁ H := ⟨rfl, theMod, fun b ob h1 => of_hidT h1, Nat.le_of_eq (hidT_size _ _), trivial, fun b hb => (nomatch hb), okH, .of_eq bare⟩
    obtain ⟨f', fd, qs, FG, hf', _, binds⟩ := F _ inKb (nsKeep nsM)
    rw [hf] at hf'
    cases hf'
    have spec := spD_yes (K := K) yes hn hS
    have l1 : [V.ref pa].length = qs.length := FG.len _ _ _ _ spec
    refine codeAny_mono (FG.run callerA [] s₁ H ⟨[.ref pa], []⟩ ([Value.ref pa] ++ []) [.ref pa] _ _ room rfl env0 (binds s₁ [Value.ref pa] inK (by simpa using l1)) (.cons rfl .nil) spec) fun r s' h => ?_
    rcases r with e | fl
    · exact (show False from h).elim
    · cases fl with
      | next => exact (show False from h).elim
      | brk => exact (show False from h).elim
      | cont => exact (show False from h).elim
      | ret u =>
        obtain ⟨v, H', sameOs, bare', un, okH', rv, e⟩ := h
        obtain rfl : v = .bl true := e
        obtain rfl : u = Value.bool true := rv
        refine ⟨rfl, OldK.of_keep fun b ob h1 => ?_, sameOs, bare'⟩
        cases q : H b with
        | none => exact un.keep b ob h1 q (fun z => nomatch z) (fun z => nomatch z)
        | some u =>
          rcases onlyS b with z | ⟨ob2, xs, z⟩
          · rw [q] at z; exact nomatch z
          · have z2 := un.frzs b ob2 _ z
            obtain ⟨g1, _⟩ := okH b _ z
            obtain ⟨g2, _⟩ := okH' b _ z2
            rw [h1] at g1
            cases g1
            exact g2
  cases hk : K.lookup pa with
  | some ob =>
    have h1 := inK pa ob hk
    rw [hp] at h1
    cases h1
    exact main (fun _ => none) (fun _ => .inl rfl) (.inr ⟨_, us.toArray, _, hk, rfl, rfl, rfl, by rw [List.size_toArray, lenU]; exact hsz, by simpa using relV⟩) (fun b u z => nomatch (show (none : Option HO) = some u from z)) (fun b z => absurd rfl z) (fun z => absurd rfl z)
  | none =>
    have atS : ∀ {b : Addr} {u : HO}, (if b = pa then some (HO.frz { cls := .type "list", data := .seq us.toArray } (.lst (ns.map V.int))) else none) = some u → b = pa ∧ u = .frz { cls := .type "list", data := .seq us.toArray } (.lst (ns.map V.int)) := by
      intro b u z
      split at z
      · cases z; exact ⟨by assumption, rfl⟩
      · cases z
    refine main (fun b => if b = pa then some (.frz { cls := .type "list", data := .seq us.toArray } (.lst (ns.map V.int))) else none) (fun b => ?_) (.rd (.inr ⟨_, if_pos rfl⟩) id) (fun b u z => ?_) (fun b z => ?_) fun _ => hk
    · by_cases h : b = pa
      · exact .inr ⟨_, _, if_pos h⟩
      · exact .inl (if_neg h)
    · obtain ⟨rfl, rfl⟩ := atS z
      exact ⟨hp, by rw [List.length_map]; exact hsz, us, _, relV, hp⟩
    · by_cases h : b = pa
      · exact h
      · exact absurd (if_neg h) z
/-- the goal that k_head leaves, from the def's promise -/
theorem walkG {l : PySem.W.OpenLaw} {n k : Nat} {q : Program} {loose : List Str} {XP : (Str → Option Value) → Heap → Prop} {YP : World → Heap → Prop} {d : DefRec} {K : Params → PySem.W.Frag} {mf : List PyData → Option (PyData × List PyData)}
    (most : l.most = some n) (small : n ≤ sizeLine) (noDef : d.params.defaults = []) (room : Room k callerA) (inK : ∀ (w : World) (h : Heap), YP w h → (K w.params).In h)
    (F : ∀ (w : World) (mg : Str → Option Value) (h : Heap), (K w.params).In h → h.Ns mainGlobals mg → ∀ base : Heap, (K w.params).In base → base.Ns mainGlobals mg → FnD l.prog w (K w.params) mg base k d.name [.frz] .frz mf) (yes : Yes n mf) :
    PySem.W.WalkO q loose XP YP l.row.toRowW d [] (fun f vs => PySem.call f vs) := by
  refine Att.attach_call most noDef fun w s₀ s₁ mg mb fa ob pm cd doc a vs ns G Y ho hd hcd hmg hobj intsA len bare => ?_
  exact headG (inK w _ Y) G.T.g G.T.b G.T.builtins G.T.nolimit bare hobj intsA len (Nat.le_trans len small) room hmg (F w mg _ (inK w _ Y) G.T.g) yes
end DL

/-! DLJ: many names at once; chains; lists put one behind another. -/
namespace DL
open PySem PySem.Spec PyProof.Rows L2

theorem hu1 {k : Nat} {A : Around} (r : Room k A) : A.units + 1 < cLine := by have := r.un; omega
theorem hu64 {k : Nat} {A : Around} (r : Room k A) : A.units + 64 < cLine := by have := r.un; omega
theorem psOk_pins {own : List Nat} {vs : List V} {i : Nat} (h : own.contains i = false) : psOk (pinsOf own vs) i = true := by
  unfold psOk
  rw [List.all_eq_true]
  intro p hp
  obtain ⟨j, hj, e⟩ := List.mem_filterMap.mp hp
  obtain ⟨v, e1, e2⟩ := Option.map_eq_some_iff.mp e
  subst e2
  have : j ≠ i := fun z => by
    subst z
    rw [List.contains_iff_mem.mpr hj] at h
    cases h
  simpa using this
theorem frzAll_pins {ks : List Kd} {own : List Nat} {vs : List V} {l : List Nat} (h : (l.all fun i => decide (ks[i]? = some .frz) && !own.contains i) = true) : frzAll ks (pinsOf own vs) l = true := by
  unfold frzAll
  rw [List.all_eq_true] at h ⊢
  intro i hi
  have := h i hi
  rw [Bool.and_eq_true, Bool.not_eq_true'] at this
  rw [this.1, psOk_pins this.2]
  rfl
def ownOk : List Kd → List Nat → Nat → Bool
  | [], _, _ => true
  | kd :: pk, own, i => (decide (kd = .frz) || own.contains i) && ownOk pk own (i + 1)
theorem ownOk_of : ∀ {pk : List Kd} {own : List Nat} {j : Nat}, ownOk pk own j = true → ∀ (i : Nat) kd, pk[i]? = some kd → kd ≠ .frz → (j + i) ∈ own
  | [], _, _, _, i, kd, e, _ => by simp at e
  | k0 :: pk, own, j, h, i, kd, e, ne => by
    unfold ownOk at h
    rw [Bool.and_eq_true, Bool.or_eq_true, decide_eq_true_eq] at h
    cases i with
    | zero =>
      simp at e
      subst e
      exact List.contains_iff_mem.mp (h.1.resolve_left ne)
    | succ i =>
      have := ownOk_of h.2 i kd (by simpa using e) ne
      rw [show j + (i + 1) = j + 1 + i by omega]
      exact this
theorem hown_of {pk : List Kd} {own : List Nat} (h : ownOk pk own 0 = true) : ∀ (i : Nat) kd, pk[i]? = some kd → kd ≠ .frz → i ∈ own := fun i kd e ne => by
  have := ownOk_of h i kd e ne
  rwa [Nat.zero_add] at this

section
variable {rk : Kd} {X : Cx} {ks : List Kd} {ps : List (Nat × V)} {a b c e o : Expr} {es : List Expr} {pos pos' : Pos}

/-! ### expressions of told kinds -/
def OwnL (K : PySem.W.Frag) (H : Hp) (O : Addr → Prop) : List Kd → List (List Addr) → List PyData → List V → Prop
  | [], Frs, ds, vs => Frs = [] ∧ ds = [] ∧ vs = []
  | kd :: kds, Frs, ds, vs => ∃ Fr Fr' d ds' v vs', Frs = Fr :: Fr' ∧ ds = d :: ds' ∧ vs = v :: vs' ∧ OwnAt K H O kd Fr d v ∧ OwnL K H O kds Fr' ds' vs'
theorem OwnL.kp {K : PySem.W.Frag} {H H' : Hp} {O O' : Addr → Prop} (k : Kp O H O' H') : ∀ {kds : List Kd} {Frs : List (List Addr)} {ds : List PyData} {vs : List V}, (∀ a ∈ Frs.flatten, ∀ o, H a = some o → H' a = some o) → OwnL K H O kds Frs ds vs → OwnL K H' O' kds Frs ds vs
  | [], _, _, _, _, h => h
  | kd :: kds, _, _, _, hF, h => by
    obtain ⟨Fr, Fr', d, ds', v, vs', rfl, rfl, rfl, h1, h2⟩ := h
    exact ⟨Fr, Fr', d, ds', v, vs', rfl, rfl, rfl, h1.kp k fun a ha o e => hF a (by rw [List.flatten_cons]; exact List.mem_append_left _ ha) o e, OwnL.kp k (fun a ha o e => hF a (by rw [List.flatten_cons]; exact List.mem_append_right _ ha) o e) h2⟩
def tAf (K : PySem.W.Frag) (ks : List Kd) (ps : List (Nat × V)) (kds : List Kd) (m : M (List PyData)) : TA := fun σ H Q => ∃ G F env ds env', EI K ks ps G F σ H env ∧ m env = some (ds, env') ∧
  ∀ vs F' H' Frs, Stp F H F' H' → EI K ks ps (fun a => G a ∨ a ∈ Frs.flatten) F' σ H' env' → OwnL K H' (OO (fun a => G a ∨ a ∈ Frs.flatten) F') kds Frs ds vs → Frs.flatten.Nodup → (∀ a ∈ Frs.flatten, ¬ G a ∧ (a ∈ F.flatten ∨ H a = none)) → Q vs H'
abbrev AfD (X : Cx) (ks : List Kd) (ps : List (Nat × V)) (kds : List Kd) (es : List Expr) (m : M (List PyData)) : Prop := PA X es (tAf X.K ks ps kds m)
def mF0 : M (List PyData) := ret []
def mF (m : M PyData) (r : M (List PyData)) : M (List PyData) := bnd m fun d => bnd r fun ds => ret (d :: ds)
theorem af_nil : AfD X ks ps [] [] mF0 := PA.imp pa_nil fun σ H Q q => by
  obtain ⟨G, F, env, ds, env', I, hm, q⟩ := q
  cases hm
  exact q [] F H [] .refl (by rw [List.flatten_nil, noneG]; exact I) ⟨rfl, rfl, rfl⟩ List.nodup_nil fun a ha => nomatch ha
theorem af_cons {kd : Kd} {kds : List Kd} {m : M PyData} {r : M (List PyData)} (h : FD X ks ps kd e m) (hr : AfD X ks ps kds es r) (hs : starEach (e :: es) X.env = (false, eval e X.env) :: starEach es X.env := by rfl) : AfD X ks ps (kd :: kds) (e :: es) (mF m r) :=
  PA.imp (pa_cons h hr hs) fun σ H Q q => by
    obtain ⟨G, F, env, ds, env', I, hm, q⟩ := q
    obtain ⟨d, e1, h1, h2⟩ := bnd_some hm
    obtain ⟨ds', e2, h3, h4⟩ := bnd_some h2
    cases h4
    refine ⟨G, F, env, d, e1, I, h1, fun v F1 H1 Fr S1 I1 o1 n1 hF1 => ⟨_, F1, e1, ds', _, I1, h3, fun vs F2 H2 Frs S2 I2 o2 n2 hF2 => ?_⟩⟩
    have eG : (fun a => (G a ∨ a ∈ Fr) ∨ a ∈ Frs.flatten) = fun a => G a ∨ a ∈ (Fr :: Frs).flatten := by
      funext a
      rw [List.flatten_cons, List.mem_append, or_assoc]
    rw [eG] at I2 o2
    have nFr : ∀ a ∈ Fr, a ∉ F1.flatten := fun a ha z => (I1.tr a z).2 (.inr ha)
    have fr2 : ∀ a, a ∈ Frs.flatten → a ∈ F1.flatten ∨ H1 a = none := fun a ha => (hF2 a ha).2
    refine q (v :: vs) F2 H2 (Fr :: Frs) (S1.trans S2) I2 ⟨Fr, Frs, d, ds', v, vs, rfl, rfl, rfl, o1.kp (S2.kp2 fun a z => ?_) fun a ha ob e => S2.keep a ob e (nFr a ha), o2⟩ ?_ fun a ha => ?_
    · rw [List.flatten_cons, List.mem_append] at z
      rcases z with z | z | z
      · exact .inl (.inl z)
      · exact .inl (.inr z)
      · exact .inr (fr2 a z)
    · rw [List.flatten_cons]
      refine List.nodup_append.mpr ⟨n1, n2, fun a ha b hb z => ?_⟩
      subst z
      exact (hF2 a hb).1 (.inr ha)
    · rw [List.flatten_cons, List.mem_append] at ha
      rcases ha with ha | ha
      · exact hF1 a ha
      · exact ⟨fun z => (hF2 a ha).1 (.inl z), S1.nw (fr2 a ha)⟩

/-- a slot takes a datum of its kind -/
theorem EI.setK {K : PySem.W.Frag} {G : Addr → Prop} {F : List (List Addr)} {σ : L2.St} {H : Hp} {env : Ev} {i : Nat} {kd : Kd} {Fr : List Addr} {d : PyData} {v : V} (I : EI K ks ps (fun a => G a ∨ a ∈ Fr) F σ H env) (hk : ks[i]? = some kd) (hp : psOk ps i = true)
    (hn : Fr.Nodup) (hG : ∀ a ∈ Fr, ¬ G a) (ho : OwnAt K H (OO (fun a => G a ∨ a ∈ Fr) F) kd Fr d v) : EI K ks ps G (F.set i Fr) (σ.set i (some v)) H (env.set i (some d)) := by
  by_cases hne : kd = .frz
  · subst hne
    obtain ⟨rfl, r⟩ := ho
    have eF : F.set i [] = F := by
      refine List.ext_getElem? fun j => ?_
      rw [List.getElem?_set]
      by_cases hj : i = j
      · subst hj
        rw [if_pos rfl, I.fz i hk]
        split
        · rfl
        · rename_i hl
          exact absurd (List.getElem?_eq_some_iff.mp (I.fz i hk)).1 hl
      · rw [if_neg hj]
    rw [eF]
    rw [noneG] at I r
    exact I.set_frz hk (psOk_ne hp) r
  · exact I.setOwn hk hne hp hn hG ho
/-- many slots take their data -/
def stoE : List Nat → List PyData → Ev → Ev
  | i :: is, d :: ds, e => stoE is ds (e.set i (some d))
  | _, _, e => e
def stoS : List Nat → List V → L2.St → L2.St
  | i :: is, v :: vs, σ => stoS is vs (σ.set i (some v))
  | _, _, σ => σ
def stoF : List Nat → List (List Addr) → List (List Addr) → List (List Addr)
  | i :: is, Fr :: Frs, F => stoF is Frs (F.set i Fr)
  | _, _, F => F
def kdsAt (ks : List Kd) (ps : List (Nat × V)) : List Nat → List Kd → Prop
  | [], [] => True
  | i :: is, kd :: kds => ks[i]? = some kd ∧ psOk ps i = true ∧ kdsAt ks ps is kds
  | _, _ => False
theorem EI.setKs {K : PySem.W.Frag} {H : Hp} : ∀ {is : List Nat} {kds : List Kd} {G : Addr → Prop} {F : List (List Addr)} {σ : L2.St} {env : Ev} {Frs : List (List Addr)} {ds : List PyData} {vs : List V}, EI K ks ps (fun a => G a ∨ a ∈ Frs.flatten) F σ H env → kdsAt ks ps is kds →
    Frs.flatten.Nodup → (∀ a ∈ Frs.flatten, ¬ G a) → OwnL K H (OO (fun a => G a ∨ a ∈ Frs.flatten) F) kds Frs ds vs → EI K ks ps G (stoF is Frs F) (stoS is vs σ) H (stoE is ds env) ∧ ∀ a ∈ (stoF is Frs F).flatten, a ∈ F.flatten ∨ a ∈ Frs.flatten
  | [], [], G, F, σ, env, Frs, ds, vs, I, hk, hn, hG, ho => by
    obtain ⟨rfl, rfl, rfl⟩ := ho
    rw [List.flatten_nil, noneG] at I
    exact ⟨I, fun a ha => .inl ha⟩
  | [], _ :: _, _, _, _, _, _, _, _, _, hk, _, _, _ => by unfold kdsAt at hk; exact hk.elim
  | _ :: _, [], _, _, _, _, _, _, _, _, hk, _, _, _ => by unfold kdsAt at hk; exact hk.elim
  | i :: is, kd :: kds, G, F, σ, env, Frs, ds, vs, I, hk, hn, hG, ho => by
    obtain ⟨h1, h2, h3⟩ := hk
    obtain ⟨Fr, Fr', d, ds', v, vs', rfl, rfl, rfl, o1, o2⟩ := ho
    rw [List.flatten_cons] at hn
    obtain ⟨n1, n2, n3⟩ := List.nodup_append.mp hn
    have eG : (fun a => G a ∨ a ∈ (Fr :: Fr').flatten) = fun a => (G a ∨ a ∈ Fr'.flatten) ∨ a ∈ Fr := by
      funext a
      rw [List.flatten_cons, List.mem_append]
      apply propext
      constructor
      · rintro (z | z | z)
        · exact .inl (.inl z)
        · exact .inr z
        · exact .inl (.inr z)
      · rintro ((z | z) | z)
        · exact .inl z
        · exact .inr (.inr z)
        · exact .inr (.inl z)
    rw [eG] at I o1 o2
    have inA : ∀ {a : Addr}, a ∈ Fr → a ∈ (Fr :: Fr').flatten := fun {a} h => by rw [List.flatten_cons]; exact List.mem_append_left _ h
    have inB : ∀ {a : Addr}, a ∈ Fr'.flatten → a ∈ (Fr :: Fr').flatten := fun {a} h => by rw [List.flatten_cons]; exact List.mem_append_right _ h
    have I1 := I.setK (G := fun a => G a ∨ a ∈ Fr'.flatten) h1 h2 n1 (fun a ha z => z.elim (hG a (inA ha)) fun z => n3 a ha a z rfl) o1
    have less : ∀ a, OO (fun a => G a ∨ a ∈ Fr'.flatten) (F.set i Fr) a → OO (fun a => (G a ∨ a ∈ Fr'.flatten) ∨ a ∈ Fr) F a := fun a z => by
      rcases z with z | z
      · exact .inl (.inl z)
      · rcases mem_set z with m | ⟨j, Fj, hj, e, m⟩
        · exact .inl (.inr m)
        · exact .inr (mem_flat.mpr ⟨j, Fj, e, m⟩)
    obtain ⟨J, sub⟩ := EI.setKs I1 h3 n2 (fun a ha => hG a (inB ha)) (o2.kp (Kp.less less) fun a _ ob e => e)
    refine ⟨J, fun a ha => ?_⟩
    rcases sub a ha with z | z
    · rcases mem_set z with m | ⟨j, Fj, hj, e, m⟩
      · exact .inr (inA m)
      · exact .inl (mem_flat.mpr ⟨j, Fj, e, m⟩)
    · exact .inr (inB z)
theorem EI.setKsS {K : PySem.W.Frag} {H H0 : Hp} {is : List Nat} {kds : List Kd} {G : Addr → Prop} {F0 F : List (List Addr)} {σ : L2.St} {env : Ev} {Frs : List (List Addr)} {ds : List PyData} {vs : List V} (S : Stp F0 H0 F H) (I : EI K ks ps (fun a => G a ∨ a ∈ Frs.flatten) F σ H env) (hk : kdsAt ks ps is kds)
    (hn : Frs.flatten.Nodup) (hG : ∀ a ∈ Frs.flatten, ¬ G a ∧ (a ∈ F0.flatten ∨ H0 a = none)) (ho : OwnL K H (OO (fun a => G a ∨ a ∈ Frs.flatten) F) kds Frs ds vs) : EI K ks ps G (stoF is Frs F) (stoS is vs σ) H (stoE is ds env) ∧ Stp F0 H0 (stoF is Frs F) H := by
  obtain ⟨J, sub⟩ := EI.setKs I hk hn (fun a ha => (hG a ha).1) ho
  exact ⟨J, ⟨S.keep, S.dom, S.tup, S.frz, fun a ha => (sub a ha).elim (S.new a) fun z => (hG a z).2⟩⟩
theorem OwnL.len {K : PySem.W.Frag} {H : Hp} {O : Addr → Prop} : ∀ {kds : List Kd} {Frs : List (List Addr)} {ds : List PyData} {vs : List V}, OwnL K H O kds Frs ds vs → vs.length = kds.length ∧ ds.length = kds.length
  | [], _, _, _, h => by obtain ⟨rfl, rfl, rfl⟩ := h; exact ⟨rfl, rfl⟩
  | _ :: _, _, _, _, h => by
    obtain ⟨Fr, Fr', d, ds', v, vs', rfl, rfl, rfl, _, h2⟩ := h
    have := h2.len
    exact ⟨by simp [this.1], by simp [this.2]⟩
/-- a, b, .. = e1, e2, .. -/
def sParK (is : List Nat) (m : M (List PyData)) : B := fun e => match m e with
  | none => none
  | some (ds, e1) => some (.nx (stoE is ds e1))
theorem sParK_some {is : List Nat} {m : M (List PyData)} {e : Ev} {out : Out} (h : sParK is m e = some out) : ∃ ds e1, m e = some (ds, e1) ∧ out = .nx (stoE is ds e1) := by
  unfold sParK at h
  split at h
  · cases h
  · cases h; exact ⟨_, _, by assumption, rfl⟩
theorem sd_parK2 {i j : Nat} {x y : Str} {px py pt : Pos} {kt k2 pt2} {kds : List Kd} {m : M (List PyData)} (hc : X.calm = true) (hN : X.N.Nodup) (hi : X.N[i]? = some x) (hj : X.N[j]? = some y) (hij : i ≠ j)
    (hx : X.env.scope.names.lookup x = some .local) (hy : X.env.scope.names.lookup y = some .local) (hk : kdsAt ks ps [i, j] kds) (ha : AfD X ks ps kds [a, b] m)
    (hw : swappedStores [.Tuple [.Name x px, .Name y py] kt pt] (.Tuple [a, b] k2 pt2) X.env = pure (some [x, y]))
    (hs : swapsWithSole [.Tuple [.Name x px, .Name y py] kt pt] (.Tuple [a, b] k2 pt2) pos.line X.env = pure false := by rfl) :
    SD X ks ps rk (.Assign [.Tuple [.Name x px, .Name y py] kt pt] (.Tuple [a, b] k2 pt2) pos) (sParK [i, j] m) := PS.imp (ps_par hc hN hi hj hij hx hy ha hw hs) fun D σ H q => by
  obtain ⟨G, F, env, out, I, hm, q⟩ := q
  obtain ⟨ds, e1, h1, rfl⟩ := sParK_some hm
  refine ⟨G, F, env, ds, e1, I, h1, fun vs F1 H1 Frs S1 I1 o1 n1 hF => ?_⟩
  obtain ⟨J, S⟩ := I1.setKsS S1 hk n1 hF o1
  have l := o1.len.1
  have lk : kds.length = 2 := by
    match kds, hk with
    | [_, _], _ => rfl
    | [], hk => exact hk.elim
    | [_], hk => exact hk.2.2.elim
    | _ :: _ :: _ :: _, hk => exact hk.2.2.2.2.elim
  match vs, l.trans lk with
  | [v, w], _ => exact ⟨v, w, rfl, q _ _ H1 S J⟩
theorem sd_parK3 {i j l : Nat} {x y z : Str} {px py pz pt : Pos} {kt k2 pt2} {kds : List Kd} {m : M (List PyData)} (hc : X.calm = true) (hN : X.N.Nodup) (hi : X.N[i]? = some x) (hj : X.N[j]? = some y) (hl : X.N[l]? = some z) (hij : i ≠ j) (hil : i ≠ l) (hjl : j ≠ l)
    (hx : X.env.scope.names.lookup x = some .local) (hy : X.env.scope.names.lookup y = some .local) (hz : X.env.scope.names.lookup z = some .local) (hk : kdsAt ks ps [i, j, l] kds) (ha : AfD X ks ps kds [a, b, c] m)
    (hw : swappedStores [.Tuple [.Name x px, .Name y py, .Name z pz] kt pt] (.Tuple [a, b, c] k2 pt2) X.env = pure (some [x, y, z]))
    (hs : swapsWithSole [.Tuple [.Name x px, .Name y py, .Name z pz] kt pt] (.Tuple [a, b, c] k2 pt2) pos.line X.env = pure false := by rfl) :
    SD X ks ps rk (.Assign [.Tuple [.Name x px, .Name y py, .Name z pz] kt pt] (.Tuple [a, b, c] k2 pt2) pos) (sParK [i, j, l] m) := PS.imp (ps_par3 hc hN hi hj hl hij hil hjl hx hy hz ha hw hs) fun D σ H q => by
  obtain ⟨G, F, env, out, I, hm, q⟩ := q
  obtain ⟨ds, e1, h1, rfl⟩ := sParK_some hm
  refine ⟨G, F, env, ds, e1, I, h1, fun vs F1 H1 Frs S1 I1 o1 n1 hF => ?_⟩
  obtain ⟨J, S⟩ := I1.setKsS S1 hk n1 hF o1
  have l1 := o1.len.1
  have lk : kds.length = 3 := by
    match kds, hk with
    | [_, _, _], _ => rfl
    | [], hk => exact hk.elim
    | [_], hk => exact hk.2.2.elim
    | [_, _], hk => exact hk.2.2.2.2.elim
    | _ :: _ :: _ :: _ :: _, hk => exact hk.2.2.2.2.2.2.elim
  match vs, l1.trans lk with
  | [u, v, w], _ => exact ⟨u, v, w, rfl, q _ _ H1 S J⟩
end
end DL

/-! DLK: chains; lists put one behind another; sorted; more. -/
namespace DL
open PySem PySem.Spec PyProof.Rows L2
def kdsB (ks : List Kd) (own : List Nat) : List Nat → List Kd → Bool
  | [], [] => true
  | i :: is, kd :: kds => decide (ks[i]? = some kd) && (!own.contains i && kdsB ks own is kds)
  | _, _ => false
theorem kds_of {ks : List Kd} {own : List Nat} {vs : List V} : ∀ {is : List Nat} {kds : List Kd}, kdsB ks own is kds = true → kdsAt ks (pinsOf own vs) is kds
  | [], [], _ => trivial
  | [], _ :: _, h => nomatch h
  | _ :: _, [], h => nomatch h
  | i :: is, kd :: kds, h => by
    unfold kdsB at h
    rw [Bool.and_eq_true, Bool.and_eq_true, decide_eq_true_eq, Bool.not_eq_true'] at h
    exact ⟨h.1, psOk_pins h.2.1, kds_of h.2.2⟩
section
variable {rk : Kd} {X : Cx} {ks : List Kd} {ps : List (Nat × V)} {a b c e o : Expr} {es : List Expr} {pos pos' : Pos}
/-! ### a op b op c -/
def mChain (f g : PyData → PyData → Option PyData) (ma mb mc : M Opd) : M PyData := bnd ma fun x => bnd mb fun y => bnd (rs2 f x y) fun r => bnd (lft (bOf r)) fun k => if k then bnd mc fun z => rs2 g y z else ret (.bool false)
end
end DL

/-! DLL: enumerate and zip over lists and tuples. -/
namespace DL
open PySem PySem.Spec PyProof.Rows L2

/-! ### a list or a tuple -/
def ItB (b : Bool) (h : Heap) (it a : Addr) (i : Nat) : Prop := if b = true then h.IsListIter it a i else h.IsTupleIter it a i
def SeqIs (b : Bool) (h : Heap) (a : Addr) (items : Array Value) : Prop := if b = true then h.IsList a items else h.IsTuple a items
section
variable {X : Cx} {pins : List (Addr × Obj)} {σ : L2.St} {H : Hp} {s : Shared} {a : Addr} {xs ys : List V}
end
theorem ItB.at {b : Bool} {h h' : Heap} {it a : Addr} {i : Nat} (q : ItB b h it a i) (k : ∀ o, h.get? it = some o → h'.get? it = some o) : ItB b h' it a i := by
  cases b with
  | true => exact Heap.IsListIter.at q fun o e => k o e
  | false => exact Heap.IsTupleIter.at q fun o e => k o e
theorem SeqIs.lt {b : Bool} {h : Heap} {a : Addr} {items : Array Value} (q : SeqIs b h a items) : a < h.objs.size := by
  cases b with
  | true => obtain ⟨o, e, _⟩ := q; exact Heap.lt_size e
  | false => obtain ⟨o, e, _⟩ := q; exact Heap.lt_size e

/-! ### enumerate -/
section
variable {rk : Kd} {X : Cx} {ks : List Kd} {ps : List (Nat × V)} {a b c e o : Expr} {es : List Expr} {pos pos' : Pos}
/-- the pairs of enumerate -/
def enumL (ds : List PyData) : List PyData := ds.zipIdx.map fun p => .tuple [.int (p.2 : Int), p.1]
def mEnum (m : M PyData) : M (List PyData) := bnd m fun d => lft ((itsOf d).map enumL)
end
end DL

/-! DLM: zip of two, strict or not, over lists and tuples. -/
namespace DL
open PySem PySem.Spec PyProof.Rows L2
open Sem (wp)

section
variable {P : Program} {w : World} {A : Around} {E : Value → Shared → Prop} {s : Shared}
variable {zz kI kO j1 j2 : Addr} {fp1 fp2 : List Addr} {n1 n2 i : Nat} {P1 P2 : Nat → Value → Prop} {St1 St2 : Nat → Heap → Prop} {a1 a2 : Value}
end

/-! ### zip as a walk -/
end DL

/-! DLN: zip made and walked. -/
namespace DL
open PySem PySem.Spec PyProof.Rows L2
open Sem (wp)

section
variable {P : Program} {w : World} {A : Around} {E : Value → Shared → Prop} {s : Shared}
end
section
variable {rk : Kd} {X : Cx} {ks : List Kd} {ps : List (Nat × V)} {a b c e e2 o : Expr} {es : List Expr} {pos pos' : Pos}
/-- the pairs of zip -/
def zipL (ds es : List PyData) : Option (List PyData) := if ds.length = es.length then some ((ds.zip es).map fun p => .tuple [p.1, p.2]) else none
def mZip (ma : M (List Opd)) : M (List PyData) := bnd ma fun os => lft (match allVal os with
  | some [d, e] => match itsOf d, itsOf e with
    | some ds, some es => zipL ds es
    | _, _ => none
  | _ => none)
end
end DL

/-! DLO: displays with stars; new lists by + and *, of ranges; told targets. -/
namespace DL
open PySem PySem.Spec PyProof.Rows L2
section
variable {rk : Kd} {X : Cx} {ks : List Kd} {ps : List (Nat × V)} {a b c e o : Expr} {es : List Expr} {pos pos' : Pos}

/-! ### stars -/
def mS0 : M (List PyData) := ret []
def mSc (m : M PyData) (r : M (List PyData)) : M (List PyData) := bnd m fun d => bnd r fun ds => ret (d :: ds)
def mSs (m : M PyData) (r : M (List PyData)) : M (List PyData) := bnd m fun d => bnd r fun ds => lft ((itsOf d).map fun l => l ++ ds)
def mTupS (ma : M (List PyData)) : M PyData := bnd ma fun ds => lft (if ds.length ≤ 1000000 then some (.tuple ds) else none)
def mLstS (ma : M (List PyData)) : M PyData := bnd ma fun ds => lft (if ds.length ≤ 1000000 then some (.list ds) else none)
/-! ### new lists -/
/-- what an operand holds as a list: the items hang on nothing that may change -/
theorem HoldsO.lst {G : Addr → Prop} {F : List (List Addr)} {σ : L2.St} {H : Hp} {env : Ev} {op : Opd} {v : V} {ds : List PyData} (hk : ∀ i, op = .slot i → ks[i]? = some .l1 ∨ ks[i]? = some .frz) (I : EI X.K ks ps G F σ H env) (h : HoldsO X.K ks G F σ H op v) (e : op.get env = some (.list ds)) :
    ∃ ad xs, v = .ref ad ∧ SqL X.K H ad xs ∧ RepA X.K H (OO G F) ds xs := by
  cases op with
  | val d =>
    cases e
    have r := HoldsO.rep I h (d := .list ds) rfl
    simp only [Opd.own, Bool.false_eq_true, if_false, Rep] at r
    obtain ⟨ad, xs, rfl, t1, a1⟩ := r
    exact ⟨ad, xs, rfl, t1.sq, a1⟩
  | slot i =>
    have e2 : env[i]? = some (some (.list ds)) := by
      unfold Opd.get at e
      dsimp only at e
      split at e
      · cases e; assumption
      · cases e
    have h2 : σ[i]? = some (some v) := h
    rcases hk i rfl with k | k
    · obtain ⟨w, Fi, e3, e4, o⟩ := I.sl i _ _ e2 k
      obtain ⟨ad, xs, ds', _, e5, rfl, e6, ra⟩ := o
      cases e5
      rw [h2] at e3
      cases e3
      exact ⟨ad, xs, rfl, .inl (.inl e6), ra⟩
    · obtain ⟨w, e3, r⟩ := I.at_frz e2 k
      rw [h2] at e3
      cases e3
      simp only [Rep] at r
      obtain ⟨ad, xs, rfl, t1, a1⟩ := r
      exact ⟨ad, xs, rfl, t1.sq, a1⟩
def mCat (ma mb : M Opd) : M PyData := bnd ma fun x => bnd mb fun y => fun e => match x.get e, y.get e with
  | some (.list xs), some (.list ys) => if xs.length + ys.length ≤ sizeLine then some (.list (xs ++ ys), e) else none
  | _, _ => none
/-- [..] * n -/
def mRep (ma : M (List Opd)) (mb : M PyData) : M PyData := bnd ma fun os => bnd mb fun d => lft (match allVal os, d with
  | some ds, .int k => if ds.length ≤ 1000 ∧ k.natAbs ≤ 10000 then some (.list (List.replicate k.toNat ds).flatten) else none
  | _, _ => none)
theorem RepA.rep {K : PySem.W.Frag} {H : Hp} {O : Addr → Prop} {ds : List PyData} {xs : List V} (h : RepA K H O ds xs) : ∀ n : Nat, RepA K H O (List.replicate n ds).flatten (List.replicate n xs).flatten
  | 0 => .nil
  | n + 1 => by
    rw [List.replicate_succ, List.replicate_succ, List.flatten_cons, List.flatten_cons]
    exact h.append (RepA.rep h n)
/-! ### list(range(..)), tuple(range(..)) -/
def rgOk (i j : Int) : Bool := decide (-(2 ^ 40) ≤ i) && (decide (i < 2 ^ 40) && (decide (-(2 ^ 40) ≤ j) && (decide (j < 2 ^ 40) && decide ((j - i).toNat ≤ 1000000))))
def mRg1 (m : M PyData) : M (Int × Int) := bnd m fun d => lft (match d with
  | .int j => if rgOk 0 j then some (0, j) else none
  | _ => none)
def mRg2 (m n : M PyData) : M (Int × Int) := bnd m fun d => bnd n fun e => lft (match d, e with
  | .int i, .int j => if rgOk i j then some (i, j) else none
  | _, _ => none)
def mLRg (m : M (Int × Int)) : M PyData := bnd m fun p => ret (.list (rngL p.1 (p.2 - p.1).toNat))
def mTRg (m : M (Int × Int)) : M PyData := bnd m fun p => ret (.tuple (rngL p.1 (p.2 - p.1).toNat))
theorem PRg.imp {t t' : L2.St → Hp → (Int → Int → Hp → Prop) → Prop} (h : PRg X e t) (w : ∀ σ H Q, t' σ H Q → t σ H Q) : PRg X e t' := fun pins s σ H Q I q => h pins s σ H Q I (w σ H Q q)
/-! ### targets that may own -/
def sParG (m : M (List PyData)) (g : List PyData → Ev → Option Ev) : B := fun e => match m e with
  | none => none
  | some (ds, e1) => match g ds e1 with
    | none => none
    | some e2 => some (.nx e2)
end
end DL

/-! DLS: mirrors worked out. -/
namespace DL
open PySem PySem.Spec PyProof.Rows L2

/-! ### the words of the mirrors, applied -/
section
variable {α β : Type} {e : Ev}
@[simp] theorem ret_ap {a : α} : ret a e = some (a, e) := rfl
@[simp] theorem bnd_ap {m : M α} {f : α → M β} : bnd m f e = (m e).bind fun p => f p.1 p.2 := by
  unfold bnd
  cases m e <;> rfl
@[simp] theorem lft_ap {o : Option α} : lft o e = o.map fun a => (a, e) := by cases o <;> rfl
@[simp] theorem mVal_ap {m : M PyData} : mVal m e = (m e).map fun p => (Opd.val p.1, p.2) := by
  unfold mVal bnd
  cases m e <;> rfl
@[simp] theorem mVar_ap {i : Nat} : mVar i e = (e[i]?).join.map fun d => (d, e) := by
  unfold mVar
  cases h : e[i]? with
  | none => rfl
  | some o => cases o <;> rfl
@[simp] theorem mSlot_ap {i : Nat} : mSlot i e = (e[i]?).join.map fun _ => (Opd.slot i, e) := by
  unfold mSlot
  cases h : e[i]? with
  | none => rfl
  | some o => cases o <;> rfl
@[simp] theorem mTake_ap {i : Nat} : mTake i e = (e[i]?).join.map fun d => (d, e.set i none) := by
  unfold mTake
  cases h : e[i]? with
  | none => rfl
  | some o => cases o <;> rfl
@[simp] theorem mA0_ap : mA0 e = some ([], e) := rfl
@[simp] theorem mA_ap {m : M Opd} {r : M (List Opd)} : mA m r e = (m e).bind fun p => (r p.2).map fun q => (p.1 :: q.1, q.2) := by
  unfold mA bnd
  cases m e with
  | none => rfl
  | some p =>
    obtain ⟨o, e1⟩ := p
    dsimp only [Option.bind_some]
    cases r e1 <;> rfl
@[simp] theorem getO_val {d : PyData} : (Opd.val d).get e = some d := rfl
@[simp] theorem getO_slot {i : Nat} : (Opd.slot i).get e = (e[i]?).join := by
  show (match e[i]? with | some (some d) => some d | _ => none) = _
  cases h : e[i]? with
  | none => rfl
  | some o => cases o <;> rfl
@[simp] theorem own_val {d : PyData} : (Opd.val d).own = false := rfl
@[simp] theorem own_slot {i : Nat} : (Opd.slot i).own = true := rfl
@[simp] theorem getAll_nil : getAll [] e = some [] := rfl
@[simp] theorem getAll_cons {o : Opd} {r : List Opd} : getAll (o :: r) e = (o.get e).bind fun d => (getAll r e).map fun ds => d :: ds := by
  conv => lhs; unfold getAll
  cases o.get e with
  | none => rfl
  | some d => cases h : getAll r e <;> simp [h]
@[simp] theorem allVal_nil : allVal [] = some [] := rfl
@[simp] theorem allVal_val {d : PyData} {r : List Opd} : allVal (.val d :: r) = (allVal r).map fun ds => d :: ds := by
  conv => lhs; unfold allVal
  cases allVal r <;> rfl
/-- what comes of slots is to hang on nothing -/
def keepI (b : Bool) (r : PyData) (e : Ev) : Option (PyData × Ev) := if b && !imm r then none else some (r, e)
@[simp] theorem keepI_f {r : PyData} : keepI false r e = some (r, e) := rfl
@[simp] theorem keepI_t {r : PyData} : keepI true r e = if imm r then some (r, e) else none := by
  unfold keepI
  cases imm r <;> rfl
@[simp] theorem rs1_ap {g : PyData → Option PyData} {o : Opd} : rs1 g o e = (o.get e).bind fun d => (g d).bind fun r => keepI o.own r e := by
  unfold rs1
  cases o.get e with
  | none => rfl
  | some d => cases h : g d <;> simp [h, keepI]
@[simp] theorem rs2_ap {g : PyData → PyData → Option PyData} {o p : Opd} : rs2 g o p e = (o.get e).bind fun d => (p.get e).bind fun d' => (g d d').bind fun r => keepI (o.own || p.own) r e := by
  unfold rs2
  cases o.get e with
  | none => rfl
  | some d =>
    cases p.get e with
    | none => rfl
    | some d' => cases h : g d d' <;> simp [h, keepI]
@[simp] theorem rsN_ap {g : List PyData → Option PyData} {os : List Opd} : rsN g os e = (getAll os e).bind fun ds => (g ds).bind fun r => keepI (os.any Opd.own) r e := by
  unfold rsN
  cases getAll os e with
  | none => rfl
  | some ds => cases h : g ds <;> simp [h, keepI]
@[simp] theorem mBin_ap {g : PyData → PyData → Option PyData} {ma mb : M Opd} : mBin g ma mb e = (ma e).bind fun p => (mb p.2).bind fun q => rs2 g p.1 q.1 q.2 := by simp [mBin]
@[simp] theorem mUn_ap {g : PyData → Option PyData} {ma : M Opd} : mUn g ma e = (ma e).bind fun p => rs1 g p.1 p.2 := by simp [mUn]
@[simp] theorem mCallB_ap {g : List PyData → Option PyData} {ma : M (List Opd)} : mCallB g ma e = (ma e).bind fun p => rsN g p.1 p.2 := by simp [mCallB]
@[simp] theorem mTest_ap {m : M PyData} : mTest m e = (m e).bind fun p => (bOf p.1).map fun b => (b, p.2) := by simp [mTest]
@[simp] theorem bOf_bool {b : Bool} : bOf (.bool b) = some b := rfl
@[simp] theorem mNot_ap {m : M Bool} : mNot m e = (m e).map fun p => (!p.1, p.2) := by
  unfold mNot bnd
  cases m e <;> rfl
@[simp] theorem mAnd_ap {m n : M Bool} : mAnd m n e = (m e).bind fun p => if p.1 = true then n p.2 else some (false, p.2) := by
  unfold mAnd bnd
  cases m e with
  | none => rfl
  | some p => obtain ⟨b, e1⟩ := p; cases b <;> rfl
@[simp] theorem mOr_ap {m n : M Bool} : mOr m n e = (m e).bind fun p => if p.1 = true then some (true, p.2) else n p.2 := by
  unfold mOr bnd
  cases m e with
  | none => rfl
  | some p => obtain ⟨b, e1⟩ := p; cases b <;> rfl
@[simp] theorem mAndV_ap {m n : M PyData} : mAndV m n e = (m e).bind fun p => (bOf p.1).bind fun b => if b = true then n p.2 else some (.bool false, p.2) := by
  unfold mAndV mTest bnd
  cases m e with
  | none => rfl
  | some p =>
    obtain ⟨d, e1⟩ := p
    simp only [Option.bind_some]
    cases h : bOf d with
    | none => simp [h]
    | some b => cases b <;> simp [h]
@[simp] theorem mOrV_ap {m n : M PyData} : mOrV m n e = (m e).bind fun p => (bOf p.1).bind fun b => if b = true then some (.bool true, p.2) else n p.2 := by
  unfold mOrV mTest bnd
  cases m e with
  | none => rfl
  | some p =>
    obtain ⟨d, e1⟩ := p
    simp only [Option.bind_some]
    cases h : bOf d with
    | none => simp [h]
    | some b => cases b <;> simp [h]
@[simp] theorem mNotV_ap {m : M PyData} : mNotV m e = (m e).bind fun p => (bOf p.1).map fun b => (.bool (!b), p.2) := by
  unfold mNotV mTest bnd
  cases m e with
  | none => rfl
  | some p =>
    obtain ⟨d, e1⟩ := p
    simp only [Option.bind_some]
    cases h : bOf d <;> simp [h]
@[simp] theorem mIf_ap {c : M Bool} {m n : M α} : mIf c m n e = (c e).bind fun p => if p.1 = true then m p.2 else n p.2 := by
  unfold mIf bnd
  cases c e with
  | none => rfl
  | some p => obtain ⟨b, e1⟩ := p; cases b <;> rfl
@[simp] theorem mTup_ap {ma : M (List Opd)} : mTup ma e = (ma e).bind fun p => (allVal p.1).bind fun ds => if ds.length ≤ 1000 then some (.tuple ds, p.2) else none := by
  unfold mTup bnd
  cases ma e with
  | none => rfl
  | some p =>
    obtain ⟨os, e1⟩ := p
    simp only [Option.bind_some]
    cases h : allVal os with
    | none => rfl
    | some ds => by_cases hl : ds.length ≤ 1000 <;> simp [h, hl]
@[simp] theorem mLst_ap {ma : M (List Opd)} : mLst ma e = (ma e).bind fun p => (allVal p.1).bind fun ds => if ds.length ≤ 1000 then some (.list ds, p.2) else none := by
  unfold mLst bnd
  cases ma e with
  | none => rfl
  | some p =>
    obtain ⟨os, e1⟩ := p
    simp only [Option.bind_some]
    cases h : allVal os with
    | none => rfl
    | some ds => by_cases hl : ds.length ≤ 1000 <;> simp [h, hl]
@[simp] theorem mChain_ap {f g : PyData → PyData → Option PyData} {ma mb mc : M Opd} : mChain f g ma mb mc e = (ma e).bind fun p => (mb p.2).bind fun q => (rs2 f p.1 q.1 q.2).bind fun r => (bOf r.1).bind fun k => if k = true then (mc r.2).bind fun t => rs2 g q.1 t.1 t.2 else some (.bool false, r.2) := by
  unfold mChain
  simp only [bnd_ap, lft_ap]
  cases ma e with
  | none => rfl
  | some p =>
    simp only [Option.bind_some]
    cases mb p.2 with
    | none => rfl
    | some q =>
      simp only [Option.bind_some]
      cases h : rs2 f p.1 q.1 q.2 with
      | none => rfl
      | some r =>
        simp only [Option.bind_some]
        cases h2 : bOf r.1 with
        | none => rfl
        | some k => cases k <;> simp
@[simp] theorem rsK_ap {rk : Kd} {g : List PyData → Option PyData} {os : List Opd} : rsK rk g os e = (getAll os e).bind fun ds => (g ds).bind fun r => if os.any Opd.own && !immK rk r then none else some (r, e) := by
  unfold rsK
  cases getAll os e with
  | none => rfl
  | some ds => cases h : g ds <;> simp [h]
@[simp] theorem mCall_ap {rk : Kd} {n : Nat} {mf : List PyData → Option (PyData × List PyData)} {ma : M (List Opd)} : mCall rk n mf ma e = (ma e).bind fun p => rsK rk (fun ds => if ds.length = n then (mf ds).map (·.1) else none) p.1 p.2 := by simp [mCall]

/-! ### statements -/
@[simp] theorem sSeq_ap {m n : B} : sSeq m n e = match m e with
  | some (.nx e') => n e'
  | r => r := rfl
@[simp] theorem sNx_ap : sNx e = some (.nx e) := rfl
@[simp] theorem sBk_ap : sBk e = some (.bk e) := rfl
@[simp] theorem sCt_ap : sCt e = some (.ct e) := rfl
@[simp] theorem sExpr_ap {m : M PyData} : sExpr m e = (m e).map fun p => .nx p.2 := by
  unfold sExpr
  cases m e <;> rfl
@[simp] theorem sRet_ap {m : M PyData} : sRet m e = (m e).map fun p => .rt p.1 p.2 := by
  unfold sRet
  cases m e <;> rfl
@[simp] theorem sIf_ap {c : M Bool} {m n : B} : sIf c m n e = (c e).bind fun p => if p.1 = true then m p.2 else n p.2 := by
  unfold sIf
  cases c e with
  | none => rfl
  | some p => obtain ⟨b, e1⟩ := p; cases b <;> rfl
@[simp] theorem sAsg_ap {m : M PyData} {g : St1} : sAsg m g e = (m e).bind fun p => (g p.1 p.2).map .nx := by
  unfold sAsg
  cases m e with
  | none => rfl
  | some p => obtain ⟨d, e1⟩ := p; simp only [Option.bind_some]; cases h : g d e1 <;> simp [h]
@[simp] theorem gNm_ap {i : Nat} {d : PyData} : gNm i d e = some (e.set i (some d)) := rfl
@[simp] theorem gNl_ap : gNl [] e = some e := rfl
@[simp] theorem gCn_ap {m : St1} {n : List PyData → Ev → Option Ev} {d : PyData} {r : List PyData} : gCn m n (d :: r) e = (m d e).bind fun e1 => n r e1 := by
  show (match m d e with | none => none | some e1 => n r e1) = _
  cases m d e <;> rfl
@[simp] theorem gTp_ap {n : Nat} {m : List PyData → Ev → Option Ev} {ds : List PyData} : gTp n m (.tuple ds) e = if ds.length = n then m ds e else none := rfl
@[simp] theorem sAug_ap {i : Nat} {g : PyData → PyData → Option PyData} {m : M PyData} : sAug i g m e = (e[i]?).join.bind fun x => (m e).bind fun p => (g x p.1).map fun z => .nx (p.2.set i (some z)) := by
  unfold sAug
  cases h : e[i]? with
  | none => rfl
  | some o =>
    cases o with
    | none => rfl
    | some x =>
      simp only [Option.join_some, Option.bind_some]
      cases h2 : m e with
      | none => rfl
      | some p =>
        obtain ⟨y, e1⟩ := p
        simp only [Option.bind_some]
        cases h3 : g x y <;> simp [h3]
@[simp] theorem mF0_ap : mF0 e = some ([], e) := rfl
@[simp] theorem mF_ap {m : M PyData} {r : M (List PyData)} : mF m r e = (m e).bind fun p => (r p.2).map fun q => (p.1 :: q.1, q.2) := by
  unfold mF bnd
  cases m e with
  | none => rfl
  | some p =>
    obtain ⟨o, e1⟩ := p
    dsimp only [Option.bind_some]
    cases r e1 <;> rfl
@[simp] theorem sParK_ap {is : List Nat} {m : M (List PyData)} : sParK is m e = (m e).map fun p => .nx (stoE is p.1 p.2) := by
  unfold sParK
  cases m e <;> rfl
@[simp] theorem stoE_nil {ds : List PyData} : stoE [] ds e = e := by cases ds <;> rfl
@[simp] theorem stoE_cons {i : Nat} {is : List Nat} {d : PyData} {ds : List PyData} : stoE (i :: is) (d :: ds) e = stoE is ds (e.set i (some d)) := rfl
@[simp] theorem mIt_ap {m : M PyData} : mIt m e = (m e).bind fun p => (itsOf p.1).map fun ds => (ds, p.2) := by simp [mIt]
@[simp] theorem itsOf_list {ds : List PyData} : itsOf (.list ds) = some ds := rfl
@[simp] theorem itsOf_tuple {ds : List PyData} : itsOf (.tuple ds) = some ds := rfl
@[simp] theorem sFor_ap {m : M (List PyData)} {g : St1} {b : B} : sFor m g b e = (m e).bind fun p => loopB g b p.1 p.2 := by
  unfold sFor
  cases m e <;> rfl
@[simp] theorem mRng_ap {g : List PyData → Option (List PyData)} {m : M (List Opd)} : mRng g m e = (m e).bind fun p => (allVal p.1).bind fun ds => (g ds).map fun l => (l, p.2) := by
  unfold mRng bnd
  cases m e with
  | none => rfl
  | some p =>
    obtain ⟨os, e1⟩ := p
    simp only [Option.bind_some]
    cases h : allVal os with
    | none => rfl
    | some ds => simp
@[simp] theorem mIsi_ap {c : String} {m : M Opd} : mIsi c m e = (m e).bind fun p => rs1 (fun d => if isiOk c then some (.bool (isiT (tyD d) c)) else none) p.1 p.2 := by simp [mIsi]
@[simp] theorem mYes_ap : mYes e = some (true, e) := rfl
@[simp] theorem mNoPart_ap : mNoPart e = some (none, e) := rfl
@[simp] theorem mPart_ap {m : M PyData} : mPart m e = (m e).bind fun p => (iOf p.1).map fun i => (i, p.2) := by simp [mPart]
@[simp] theorem iOf_int {i : Int} : iOf (.int i) = some (some i) := rfl
@[simp] theorem mSl_ap {m : M Opd} {l h : M (Option Int)} : mSl m l h e = (m e).bind fun p => (l p.2).bind fun q => (h q.2).bind fun r => rs1 (sliceD q.1 r.1) p.1 r.2 := by simp [mSl]
@[simp] theorem mSrcGet_ap {i : Nat} {k : SKey} : mSrcGet i k e = (srcAt i e).map fun s => (.int (k.get s), e) := by
  unfold mSrcGet
  cases srcAt i e <;> rfl
@[simp] theorem mSrcLen_ap {i : Nat} : mSrcLen i e = (srcAt i e).map fun s => (.int (s.1.length : Int), e) := by
  unfold mSrcLen
  cases srcAt i e <;> rfl
end

@[simp] theorem ite_some_pair {α β : Type} {c : Prop} [Decidable c] {a b : α} {e : β} : (if c then some (a, e) else some (b, e)) = some (if c then a else b, e) := by split <;> rfl
/-! ### operations on told data -/
section
variable {i j : Int} {xs ys : List PyData}
@[simp] theorem addD_i : addD (.int i) (.int j) = some (.int (i + j)) := rfl
@[simp] theorem addD_t : addD (.tuple xs) (.tuple ys) = if xs.length + ys.length ≤ sizeLine then some (.tuple (xs ++ ys)) else none := rfl
@[simp] theorem addD_l : addD (.list xs) (.list ys) = if xs.length + ys.length ≤ sizeLine then some (.list (xs ++ ys)) else none := rfl
@[simp] theorem iaddD_i : iaddD (.int i) (.int j) = some (.int (i + j)) := rfl
@[simp] theorem subD_i : subD (.int i) (.int j) = some (.int (i - j)) := rfl
@[simp] theorem mulD_i : mulD (.int i) (.int j) = if mulOk i j then some (.int (i * j)) else none := rfl
@[simp] theorem fdivD_i : fdivD (.int i) (.int j) = if j ≠ 0 ∧ j.natAbs < 1073741824 then some (.int (i.fdiv j)) else none := rfl
@[simp] theorem modD_i : modD (.int i) (.int j) = if j ≠ 0 then some (.int (i.fmod j)) else none := rfl
@[simp] theorem negD_i : negD (.int i) = some (.int (-i)) := rfl
@[simp] theorem ltD_i : ltD (.int i) (.int j) = some (.bool (decide (i < j))) := rfl
@[simp] theorem leD_i : leD (.int i) (.int j) = some (.bool (decide (i ≤ j))) := rfl
@[simp] theorem gtD_i : gtD (.int i) (.int j) = some (.bool (decide (j < i))) := rfl
@[simp] theorem geD_i : geD (.int i) (.int j) = some (.bool (decide (j ≤ i))) := rfl
@[simp] theorem lenD_l : lenD [.list xs] = some (.int xs.length) := rfl
@[simp] theorem lenD_t : lenD [.tuple xs] = some (.int xs.length) := rfl
@[simp] theorem absD_i : absD [.int i] = some (.int (if i < 0 then -i else i)) := rfl
@[simp] theorem intD_i : intD [.int i] = some (.int i) := rfl
@[simp] theorem intD_b {b : Bool} : intD [.bool b] = some (.int (if b then 1 else 0)) := rfl
@[simp] theorem max2D_i : max2D [.int i, .int j] = some (.int (if j > i then j else i)) := rfl
@[simp] theorem min2D_i : min2D [.int i, .int j] = some (.int (if j < i then j else i)) := rfl
@[simp] theorem tupleD_l : tupleD [.list xs] = some (.tuple xs) := rfl
@[simp] theorem tupleD_t : tupleD [.tuple xs] = some (.tuple xs) := rfl
@[simp] theorem listD_l : listD [.list xs] = some (.list xs) := rfl
@[simp] theorem listD_t : listD [.tuple xs] = some (.list xs) := rfl
@[simp] theorem itemD_l : itemD (.list xs) (.int i) = atI xs i := rfl
@[simp] theorem itemD_t : itemD (.tuple xs) (.int i) = atI xs i := rfl
@[simp] theorem isD_b {a b : Bool} : isD (.bool a) (.bool b) = some (.bool (decide (a = b))) := rfl
@[simp] theorem isNotD_b {a b : Bool} : isNotD (.bool a) (.bool b) = some (.bool (!decide (a = b))) := rfl
@[simp] theorem revD_l : revD (.list xs) = some (.list xs.reverse) := rfl
@[simp] theorem imm_i : imm (.int i) = true := rfl
@[simp] theorem imm_b {b : Bool} : imm (.bool b) = true := rfl
@[simp] theorem imm_n : imm .none = true := rfl
@[simp] theorem imm_s {x : Str} : imm (.str x) = true := rfl
@[simp] theorem imm_t : imm (.tuple xs) = immA xs := rfl
@[simp] theorem immA_nil : immA [] = true := rfl
@[simp] theorem immA_cons {x : PyData} : immA (x :: xs) = (imm x && immA xs) := rfl
@[simp] theorem eqD_i : eqD (.int i) (.int j) = some (.bool (decide (i = j))) := by
  show some (PyData.bool (PyData.eqv (.int i) (.int j))) = _
  unfold PyData.eqv
  congr 2
@[simp] theorem neD_i : neD (.int i) (.int j) = some (.bool (!decide (i = j))) := by
  show some (PyData.bool (!PyData.eqv (.int i) (.int j))) = _
  unfold PyData.eqv
  congr 2
end
/-! ### the source, worked out -/
abbrev Src := List Int × Int × Int × Int
theorem srcOf_dt (s : Src) : srcOf (srcDt s) = some s := by
  obtain ⟨a, b, c, d⟩ := s
  exact srcOf_srcD a b c d
/-- the cells are taken until what is left is 2 or more -/
def feed : List Int → Int → List Int × Int
  | [], l => ([], l)
  | c :: cs, l => if l < 2 then feed cs c else (c :: cs, l)
def pick1 (f : List Int × Int) (m t many : Int) : Int × Src :=
  if many < 2 ∨ 1 < f.2 then (f.2.fmod (max 1 many), (f.1.reverse, f.2.fdiv (max 1 many), m, t))
  else ((((((m + (t + 1) * 104729).fmod 998244353) * ((m + (t + 1) * 104729).fmod 998244353) + (t + 1) * 17).fmod 2147483647).fdiv 16).fmod many,
    (f.1.reverse, f.2, (((m + (t + 1) * 104729).fmod 998244353) * ((m + (t + 1) * 104729).fmod 998244353) + (t + 1) * 17).fmod 2147483647, t + 1))
def pickR (s : Src) (many : Int) : Int × Src := pick1 (if 1 < many then feed s.1.reverse s.2.1 else (s.1.reverse, s.2.1)) s.2.2.1 s.2.2.2 many
theorem pick1_lo (f : List Int × Int) (m t many : Int) : 0 ≤ (pick1 f m t many).1 := by
  unfold pick1
  split
  · exact Int.fmod_nonneg_of_pos _ (by omega)
  · exact Int.fmod_nonneg_of_pos _ (by omega)
theorem pick1_hi (f : List Int × Int) (m t many : Int) : (pick1 f m t many).1 < max 1 many := by
  unfold pick1
  split
  · exact Int.fmod_lt_of_pos _ (by omega)
  · exact Int.lt_of_lt_of_le (Int.fmod_lt_of_pos _ (b := many) (by omega)) (by omega)
theorem pickR_lo (s : Src) (many : Int) : 0 ≤ (pickR s many).1 := pick1_lo _ _ _ _
theorem pickR_hi (s : Src) (many : Int) : (pickR s many).1 < max 1 many := pick1_hi _ _ _ _
def mmSource : List PyData → Option (PyData × List PyData) := mDef .src [.frz] 3
  (sSeq (sAsg (ret (.int 11)) (gNm 1))
  (sSeq (sFor (mIt (mVar 0)) (gNm 2)
  (sAsg (mBin modD (mVal (mCallB intD (mA (mVal (mBin addD (mVal (mBin addD (mVal (mBin mulD (mVal (mVar 1)) (mVal (ret (.int 69069))))) (mVal (mBin mulD (mVal (mVar 2)) (mVal (ret (.int 31))))))) (mVal (ret (.int 5))))) mA0))) (mVal (ret (.int 2147483629)))) (gNm 1)))
  (sRet (mSrcNew (mUn revD (mVal (mComp (mIt (mVar 0)) (gNm 2) mYes (mCallB absD (mA (mVal (mVar 2)) mA0)) [2]))) (ret (.int 1)) (mVar 1) (ret (.int 0))))))
def mmPick : List PyData → Option (PyData × List PyData) := mDef .frz [.src, .frz] 4
  (sSeq (sWhile (srcFuel 0) (mAnd (mTest (mBin gtD (mVal (mVar 1)) (mVal (ret (.int 1))))) (mAnd (mTest (mBin ltD (mVal (mSrcGet 0 .left)) (mVal (ret (.int 2))))) (mTest (mBin gtD (mVal (mSrcLen 0)) (mVal (ret (.int 0)))))))
  (sSrcPut 0 .left (mSrcPop 0)))
  (sSeq (sAsg (mSrcGet 0 .left) (gNm 2))
  (sSeq (sIf (mOr (mTest (mBin ltD (mVal (mVar 1)) (mVal (ret (.int 2))))) (mTest (mBin gtD (mVal (mVar 2)) (mVal (ret (.int 1))))))
  (sSeq (sSrcPut 0 .left (mBin fdivD (mVal (mVar 2)) (mVal (mCallB max2D (mA (mVal (ret (.int 1))) (mA (mVal (mVar 1)) mA0))))))
  (sRet (mBin modD (mVal (mCallB intD (mA (mVal (mVar 2)) mA0))) (mVal (mCallB max2D (mA (mVal (ret (.int 1))) (mA (mVal (mVar 1)) mA0)))))))
  sNx)
  (sSeq (sSrcPut 0 .turn (mBin addD (mVal (mSrcGet 0 .turn)) (mVal (ret (.int 1)))))
  (sSeq (sAsg (mBin modD (mVal (mCallB intD (mA (mVal (mBin addD (mVal (mSrcGet 0 .mixed)) (mVal (mBin mulD (mVal (mSrcGet 0 .turn)) (mVal (ret (.int 104729))))))) mA0))) (mVal (ret (.int 998244353)))) (gNm 3))
  (sSeq (sAsg (mBin modD (mVal (mCallB intD (mA (mVal (mBin addD (mVal (mBin mulD (mVal (mVar 3)) (mVal (mVar 3)))) (mVal (mBin mulD (mVal (mSrcGet 0 .turn)) (mVal (ret (.int 17))))))) mA0))) (mVal (ret (.int 2147483647)))) (gNm 3))
  (sSeq (sSrcPut 0 .mixed (mVar 3))
  (sRet (mBin modD (mVal (mCallB intD (mA (mVal (mBin fdivD (mVal (mVar 3)) (mVal (ret (.int 16))))) mA0))) (mVal (mVar 1)))))))))))

@[simp] theorem sSrcPut_ap {i : Nat} {k : SKey} {m : M PyData} {e : Ev} : sSrcPut i k m e = (m e).bind fun p => (match p.1 with | .int x => some x | _ => none).bind fun x => (srcAt i p.2).map fun s => .nx (p.2.set i (some (srcDt (k.put x s)))) := by
  unfold sSrcPut
  cases m e with
  | none => rfl
  | some p =>
    obtain ⟨d, e1⟩ := p
    cases d <;> first | rfl | (simp only [Option.bind_some]; cases h : srcAt i e1 <;> simp [h])
theorem srcAt_0 {s : Src} {r : Ev} : srcAt 0 (some (srcDt s) :: r) = some s := srcOf_dt s
theorem mSrcPop_0 {cs : List Int} {x l m t : Int} {r : Ev} : mSrcPop 0 (some (srcDt (cs ++ [x], l, m, t)) :: r) = some (.int x, some (srcDt (cs, l, m, t)) :: r) := by
  unfold mSrcPop
  rw [srcAt_0]
  simp [srcDt]
theorem smallI_of {i : Int} (h : i.natAbs < 2 ^ 64) : smallI i = true := by
  unfold smallI
  rw [Bool.and_eq_true, decide_eq_true_eq, decide_eq_true_eq]
  omega
theorem feed_loop {many : Int} {m t : Int} {r : Ev} (hm : 1 < many) : ∀ (cs : List Int) (l : Int), whileB (mAnd (mTest (mBin gtD (mVal (mVar 1)) (mVal (ret (.int 1))))) (mAnd (mTest (mBin ltD (mVal (mSrcGet 0 .left)) (mVal (ret (.int 2))))) (mTest (mBin gtD (mVal (mSrcLen 0)) (mVal (ret (.int 0)))))))
    (sSrcPut 0 .left (mSrcPop 0)) (cs.length + 1) (some (srcDt (cs.reverse, l, m, t)) :: some (.int many) :: r) = some (.nx (some (srcDt ((feed cs l).1.reverse, (feed cs l).2, m, t)) :: some (.int many) :: r))
  | [], l => by
    unfold whileB
    by_cases hl : l < 2 <;> simp [gtD, ltD, srcAt_0, SKey.get, hm, hl, feed]
  | c :: cs, l => by
    unfold whileB
    by_cases hl : l < 2
    · have ih := feed_loop (m := m) (t := t) (r := r) hm cs c
      simp [gtD, ltD, srcAt_0, SKey.get, SKey.put, hm, hl, mSrcPop_0, ih, feed]
    · simp [gtD, ltD, srcAt_0, SKey.get, hm, hl, feed]
theorem mulOk_r {i j : Int} (h : j.natAbs < 2 ^ 64) : mulOk i j = true := by
  unfold mulOk
  rw [smallI_of h]
  simp
theorem mulOk_l {i j : Int} (h : i.natAbs < 2 ^ 64) : mulOk i j = true := by
  unfold mulOk
  rw [smallI_of h]
  simp
theorem fmod_small (i : Int) {j : Int} (h : 0 < j) (h2 : j < 2 ^ 64) : (i.fmod j).natAbs < 2 ^ 64 := by
  have h3 := Int.fmod_nonneg_of_pos i h
  have h4 := Int.fmod_lt_of_pos i h
  omega
theorem max_eq (many : Int) : (if many > 1 then many else 1) = max 1 many := by omega
theorem pick_spec (s : Src) (many : Int) (hm : many.natAbs < 1073741824) : mmPick [srcDt s, .int many] = some (.int (pickR s many).1, [srcDt (pickR s many).2, .int many]) := by
  obtain ⟨cs, l, m, t⟩ := s
  unfold mmPick mDef
  have h1 : ∀ (cs : List Int) (l : Int), (∃ f : List Int × Int, (if 1 < many then feed cs.reverse l else (cs.reverse, l)) = f ∧ sWhile (srcFuel 0) (mAnd (mTest (mBin gtD (mVal (mVar 1)) (mVal (ret (.int 1))))) (mAnd (mTest (mBin ltD (mVal (mSrcGet 0 .left)) (mVal (ret (.int 2))))) (mTest (mBin gtD (mVal (mSrcLen 0)) (mVal (ret (.int 0)))))))
    (sSrcPut 0 .left (mSrcPop 0)) [some (srcDt (cs, l, m, t)), some (.int many), none, none] = some (.nx [some (srcDt (f.1.reverse, f.2, m, t)), some (.int many), none, none])) := by
    intro cs l
    refine ⟨_, rfl, ?_⟩
    unfold sWhile srcFuel
    rw [srcAt_0]
    dsimp only
    by_cases h : 1 < many
    · have := feed_loop (m := m) (t := t) (r := [none, none]) h cs.reverse l
      rw [List.reverse_reverse, List.length_reverse] at this
      rw [this, if_pos h]
    · rw [if_neg h, List.reverse_reverse]
      unfold whileB
      simp [gtD, h]
  obtain ⟨f, hf, h2⟩ := h1 cs l
  have e : pickR (cs, l, m, t) many = pick1 f m t many := by
    unfold pickR
    rw [hf]
  rw [e]
  simp only [List.map_cons, List.map_nil, List.length_cons, List.length_nil, List.cons_append, List.nil_append, List.replicate]
  rw [sSeq_ap, h2]
  dsimp only
  have ne : max 1 many ≠ 0 := by omega
  have sm : (max 1 many).natAbs < 1073741824 := by omega
  unfold pick1
  by_cases hc : many < 2 ∨ 1 < f.2
  · rw [if_pos hc]
    have hd : (many < 2) ∨ (1 < f.2) := hc
    simp [srcAt_0, SKey.get, SKey.put, max_eq, ne, sm, finB, outsOf, hd]
  · rw [if_neg hc]
    have n1 : ¬ many < 2 := fun z => hc (.inl z)
    have n2 : ¬ 1 < f.2 := fun z => hc (.inr z)
    have n0 : ¬ many = 0 := by omega
    have k1 : ∀ i, mulOk i 104729 = true := fun i => mulOk_r (by decide)
    have k2 : ∀ i, mulOk i 17 = true := fun i => mulOk_r (by decide)
    have k3 : ∀ i j : Int, mulOk (Int.fmod i 998244353) j = true := fun i j => mulOk_l (fmod_small i (by decide) (by decide))
    simp [srcAt_0, SKey.get, SKey.put, max_eq, ne, sm, finB, outsOf, n0, n1, n2, k1, k2, k3]

/-! ### loops and comprehensions, worked out -/
theorem compL_fm {g : St1} {t : M Bool} {m : M PyData} {vs : List Nat} {e0 : Ev} (p : PyData → Bool) (f : PyData → PyData) : ∀ {ds : List PyData}, (∀ d ∈ ds, ∃ e1 e2, g d e0 = some e1 ∧ t e1 = some (p d, e2) ∧ (p d = false → wipeE e2 vs = e0) ∧ (p d = true → ∃ e3, m e2 = some (f d, e3) ∧ wipeE e3 vs = e0)) →
    compL g t m vs ds e0 = some ((ds.filter p).map f, e0)
  | [], _ => rfl
  | d :: ds, H => by
    obtain ⟨e1, e2, h1, h2, h3, h4⟩ := H d List.mem_cons_self
    have ih := compL_fm p f fun d' hd => H d' (List.mem_cons_of_mem _ hd)
    unfold compL
    rw [h1]
    dsimp only
    rw [h2]
    cases hp : p d with
    | false =>
      dsimp only
      rw [h3 hp, ih, List.filter_cons_of_neg (by rw [hp]; decide)]
    | true =>
      obtain ⟨e3, h5, h6⟩ := h4 hp
      dsimp only
      rw [h5]
      dsimp only
      rw [h6, ih, List.filter_cons_of_pos hp]
      rfl
theorem backE_get (e0 e : Ev) (i : Nat) : ∀ vs : List Nat, (backE e0 e vs)[i]? = if i ∈ vs ∧ i < e.length then some (e0.getD i none) else e[i]?
  | [] => by
    rw [if_neg (fun z => nomatch z.1)]
    rfl
  | v :: vs => by
    unfold backE
    rw [List.getElem?_set, backE_len, backE_get e0 e i vs]
    by_cases hv : v = i
    · subst hv
      by_cases hl : v < e.length
      · rw [if_pos rfl, if_pos hl, if_pos ⟨List.mem_cons_self, hl⟩]
      · rw [if_pos rfl, if_neg hl, if_neg (fun z => hl z.2), List.getElem?_eq_none_iff.mpr (Nat.le_of_not_lt hl)]
    · rw [if_neg hv]
      have : i ∈ v :: vs ↔ i ∈ vs := by
        rw [List.mem_cons]
        exact ⟨fun z => z.resolve_left (Ne.symm hv), .inr⟩
      simp only [this]
theorem wipeE_get (e : Ev) (i : Nat) : ∀ vs : List Nat, (wipeE e vs)[i]? = if i ∈ vs ∧ i < e.length then some none else e[i]?
  | [] => by
    rw [if_neg (fun z => nomatch z.1)]
    rfl
  | v :: vs => by
    unfold wipeE
    rw [List.getElem?_set, wipeE_len, wipeE_get e i vs]
    by_cases hv : v = i
    · subst hv
      by_cases hl : v < e.length
      · rw [if_pos rfl, if_pos hl, if_pos ⟨List.mem_cons_self, hl⟩]
      · rw [if_pos rfl, if_neg hl, if_neg (fun z => hl z.2), List.getElem?_eq_none_iff.mpr (Nat.le_of_not_lt hl)]
    · rw [if_neg hv]
      have : i ∈ v :: vs ↔ i ∈ vs := by
        rw [List.mem_cons]
        exact ⟨fun z => z.resolve_left (Ne.symm hv), .inr⟩
      simp only [this]
theorem backE_wipe (e : Ev) (vs : List Nat) : backE e (wipeE e vs) vs = e := by
  refine List.ext_getElem? fun i => ?_
  rw [backE_get, wipeE_get, wipeE_len]
  by_cases h : i ∈ vs ∧ i < e.length
  · rw [if_pos h, List.getD_eq_getElem?_getD, List.getElem?_eq_getElem h.2]
    rfl
  · rw [if_neg h, if_neg h]
theorem mComp_fm {it : M (List PyData)} {g : St1} {t : M Bool} {m : M PyData} {vs : List Nat} {e e1 : Ev} {ds : List PyData} (p : PyData → Bool) (f : PyData → PyData) (h : it e = some (ds, e1)) (hl : ds.length ≤ 1000000)
    (H : ∀ d ∈ ds, ∃ e2 e3, g d (wipeE e1 vs) = some e2 ∧ t e2 = some (p d, e3) ∧ (p d = false → wipeE e3 vs = wipeE e1 vs) ∧ (p d = true → ∃ e4, m e3 = some (f d, e4) ∧ wipeE e4 vs = wipeE e1 vs)) : mComp it g t m vs e = some (.list ((ds.filter p).map f), e1) := by
  unfold mComp
  rw [h]
  dsimp only
  rw [if_pos hl, compL_fm p f H]
  dsimp only
  rw [backE_wipe]
theorem mComp_m {it : M (List PyData)} {g : St1} {m : M PyData} {vs : List Nat} {e e1 : Ev} {ds : List PyData} (f : PyData → PyData) (h : it e = some (ds, e1)) (hl : ds.length ≤ 1000000)
    (H : ∀ d ∈ ds, ∃ e2 e4, g d (wipeE e1 vs) = some e2 ∧ m e2 = some (f d, e4) ∧ wipeE e4 vs = wipeE e1 vs) : mComp it g mYes m vs e = some (.list (ds.map f), e1) := by
  have := mComp_fm (it := it) (g := g) (t := mYes) (m := m) (vs := vs) (fun _ => true) f h hl fun d hd => by
    obtain ⟨e2, e4, h1, h2, h3⟩ := H d hd
    exact ⟨e2, e2, h1, rfl, (fun z => nomatch z), fun _ => ⟨e4, h2, h3⟩⟩
  rw [this, List.filter_eq_self.mpr fun _ _ => rfl]
/-- the script's source -/
def srcS (ns : List Int) : Src := ((ns.map fun i => if i < 0 then -i else i).reverse, 1, ns.foldl (fun m c => (m * 69069 + c * 31 + 5).fmod 2147483629) 11, 0)
theorem source_spec (ns : List Int) (hn : ns.length ≤ 63) : mmSource [.list (ns.map PyData.int)] = some (srcDt (srcS ns), [.list (ns.map PyData.int)]) := by
  have k1 : ∀ i, mulOk i 69069 = true := fun i => mulOk_r (by decide)
  have k2 : ∀ i, mulOk i 31 = true := fun i => mulOk_r (by decide)
  have loop : ∀ (ns : List Int) (m : Int) (S : PyData) (c : Option PyData), ∃ c', loopB (gNm 2) (sAsg (mBin modD (mVal (mCallB intD (mA (mVal (mBin addD (mVal (mBin addD (mVal (mBin mulD (mVal (mVar 1)) (mVal (ret (.int 69069))))) (mVal (mBin mulD (mVal (mVar 2)) (mVal (ret (.int 31))))))) (mVal (ret (.int 5))))) mA0))) (mVal (ret (.int 2147483629)))) (gNm 1))
      (ns.map PyData.int) [some S, some (.int m), c] = some (.nx [some S, some (.int (ns.foldl (fun m c => (m * 69069 + c * 31 + 5).fmod 2147483629) m)), c']) := by
    intro ns
    induction ns with
    | nil => exact fun m S c => ⟨c, rfl⟩
    | cons n ns ih =>
      intro m S c
      obtain ⟨c', h⟩ := ih ((m * 69069 + n * 31 + 5).fmod 2147483629) S (some (.int n))
      refine ⟨c', ?_⟩
      rw [List.map_cons, List.foldl_cons]
      unfold loopB
      simp [k1, k2]
      exact h
  obtain ⟨c', h⟩ := loop ns 11 (.list (ns.map PyData.int)) none
  unfold mmSource mDef
  simp only [List.map_cons, List.map_nil, List.length_cons, List.length_nil, List.cons_append, List.nil_append, List.replicate]
  have hc : ∀ M : Int, mComp (mIt (mVar 0)) (gNm 2) mYes (mCallB absD (mA (mVal (mVar 2)) mA0)) [2] [some (.list (ns.map PyData.int)), some (.int M), c'] = some (.list ((ns.map fun i => if i < 0 then -i else i).map PyData.int), [some (.list (ns.map PyData.int)), some (.int M), c']) := by
    intro M
    have := mComp_m (it := mIt (mVar 0)) (g := gNm 2) (m := mCallB absD (mA (mVal (mVar 2)) mA0)) (vs := [2]) (e := [some (.list (ns.map PyData.int)), some (.int M), c']) (e1 := [some (.list (ns.map PyData.int)), some (.int M), c']) (ds := ns.map PyData.int) (fun d => match d with | .int i => .int (if i < 0 then -i else i) | d => d) (by simp) (by simp; omega) fun d hd => by
      obtain ⟨i, _, rfl⟩ := List.mem_map.mp hd
      simp [wipeE]
    rw [this]
    simp [Function.comp_def]
  have hi : intsOf ((ns.map fun i => if i < 0 then -i else i).map PyData.int).reverse = some (ns.map fun i => if i < 0 then -i else i).reverse := by
    rw [← List.map_reverse, intsOf_map]
  simp [h, hc, mSrcNew, finB, outsOf]
  rw [← List.map_map, hi]
  rfl

/-! ### repr of small data -/
mutual
/-- no dict, ints of 64 bits -/
def okD : PyData → Bool
  | .none | .bool _ | .str _ => true
  | .int i => decide (i.natAbs < 2 ^ 64)
  | .list xs | .tuple xs => okA xs
  | .dict _ => false
def okA : List PyData → Bool
  | [] => true
  | x :: xs => okD x && okA xs
end
mutual
/-- room enough for what is shown -/
def sz : PyData → Nat
  | .none => 4
  | .bool _ => 5
  | .int _ => 70
  | .str x => (reprText x).length
  | .list xs | .tuple xs => szA xs + 3
  | .dict _ => 0
def szA : List PyData → Nat
  | [] => 0
  | x :: xs => sz x + 2 + szA xs
end
theorem textFrom_le : ∀ (ts : List Str) (k : Nat) (acc : Str), (textFrom k acc ts).length ≤ acc.length + piled ts
  | [], k, acc => by
    show acc.length ≤ _
    omega
  | t :: r, k, acc => by
    have ih := textFrom_le r (k + 1) (acc ++ (if k > 0 then ", " else "" : String) ++ t)
    have e : (acc ++ (if k > 0 then ", " else "" : String) ++ t).length ≤ acc.length + 2 + t.length := by
      rw [strLen_append, strLen_append]
      split
      · show acc.length + 2 + t.length ≤ _
        omega
      · show acc.length + 0 + t.length ≤ _
        omega
    rw [piled_cons]
    have e2 : textFrom k acc (t :: r) = textFrom (k + 1) (acc ++ (if k > 0 then ", " else "" : String) ++ t) r := rfl
    rw [e2]
    omega
theorem listText_le (ts : List Str) : (listText ts).length ≤ piled ts + 2 := by
  unfold listText
  rw [strLen_append]
  have := textFrom_le ts 0 "["
  have e1 : (("[" : String) : Str).length = 1 := rfl
  have e2 : (("]" : String) : Str).length = 1 := rfl
  omega
theorem tupleText_le (ts : List Str) : (tupleText ts).length ≤ piled ts + 3 := by
  unfold tupleText
  rw [strLen_append, strLen_append]
  have e1 : (("(" : String) : Str).length = 1 := rfl
  have e2 : ((if ts.length == 1 then ",)" else ")" : String) : Str).length ≤ 2 := by
    split
    · exact Nat.le_refl 2
    · exact (by decide : 1 ≤ 2)
  by_cases h : ts = []
  · subst h
    have e3 : (Str.join ", " ([] : List Str)).length = 0 := rfl
    omega
  · have := join_length_add ts h
    omega
theorem intText_le {i : Int} (h : i.natAbs < 2 ^ 64) : ((toString i : String) : Str).length ≤ 70 := by
  have dl : ∀ n : Nat, n < 2 ^ 64 → (Nat.toDigits 10 n).length ≤ 64 := fun n hn => (Nat.length_toDigits_le_iff (by decide) (by decide)).mpr (Nat.lt_of_lt_of_le hn (by decide))
  have hs : ∀ n : Nat, n < 2 ^ 64 → (toString n : String).length ≤ 64 := fun n hn => by
    show (String.ofList (Nat.toDigits 10 n)).length ≤ 64
    rw [String.length_ofList]
    exact dl n hn
  rw [PySem.ofString_length]
  cases i with
  | ofNat n =>
    have := hs n h
    show (toString n : String).length ≤ 70
    omega
  | negSucc n =>
    have := hs (n + 1) h
    show ("-" ++ toString (n + 1) : String).length ≤ 70
    rw [String.length_append]
    have e1 : ("-" : String).length = 1 := rfl
    omega
mutual
theorem shown_le : ∀ {d : PyData}, okD d = true → d.shown.length ≤ sz d
  | .none, _ => by
    unfold PyData.shown sz
    exact Nat.le_refl 4
  | .bool b, _ => by
    unfold PyData.shown sz
    cases b
    · exact Nat.le_refl 5
    · exact (by decide : 4 ≤ 5)
  | .int i, h => by
    unfold okD at h
    unfold PyData.shown sz
    exact intText_le (of_decide_eq_true h)
  | .str x, _ => by
    unfold PyData.shown sz
    exact Nat.le_refl _
  | .list xs, h => by
    unfold okD at h
    unfold PyData.shown sz
    have := listText_le (PyData.shownAll xs)
    have := shownA_le h
    omega
  | .tuple xs, h => by
    unfold okD at h
    unfold PyData.shown sz
    have := tupleText_le (PyData.shownAll xs)
    have := shownA_le h
    omega
  | .dict _, h => by unfold okD at h; cases h
theorem shownA_le : ∀ {ds : List PyData}, okA ds = true → piled (PyData.shownAll ds) ≤ szA ds
  | [], _ => by
    unfold PyData.shownAll szA
    exact Nat.le_refl 0
  | x :: xs, h => by
    unfold okA at h
    rw [Bool.and_eq_true] at h
    unfold PyData.shownAll szA
    rw [piled_cons]
    have := shown_le h.1
    have := shownA_le h.2
    omega
end
mutual
theorem okD_lay : ∀ {d : PyData}, okD d = true → d.showable = true ∧ layD d = true ∧ d.hasDict = false
  | .none, _ => by simp only [PyData.showable, layD, PyData.hasDict, and_self]
  | .bool _, _ => by simp only [PyData.showable, layD, PyData.hasDict, and_self]
  | .str _, _ => by simp only [PyData.showable, layD, PyData.hasDict, and_self]
  | .int i, h => by
    unfold okD at h
    have h := of_decide_eq_true h
    refine ⟨?_, by simp only [layD], by simp only [PyData.hasDict]⟩
    unfold PyData.showable
    refine decide_eq_true ?_
    by_cases h0 : i.natAbs = 0
    · rw [h0]; decide
    · exact Nat.lt_trans ((Nat.log2_lt h0).mpr h) (by decide)
  | .list xs, h => by
    unfold okD at h
    obtain ⟨h1, h2, h3⟩ := okA_lay h
    exact ⟨by unfold PyData.showable; exact h1, by unfold layD; exact h2, by unfold PyData.hasDict; exact h3⟩
  | .tuple xs, h => by
    unfold okD at h
    obtain ⟨h1, h2, h3⟩ := okA_lay h
    exact ⟨by unfold PyData.showable; exact h1, by unfold layD; exact h2, by unfold PyData.hasDict; exact h3⟩
  | .dict _, h => by unfold okD at h; cases h
theorem okA_lay : ∀ {ds : List PyData}, okA ds = true → PyData.showableAll ds = true ∧ layA ds = true ∧ PyData.hasDictAll ds = false
  | [], _ => by simp only [PyData.showableAll, layA, PyData.hasDictAll, and_self]
  | x :: xs, h => by
    unfold okA at h
    rw [Bool.and_eq_true] at h
    obtain ⟨a1, a2, a3⟩ := okD_lay h.1
    obtain ⟨b1, b2, b3⟩ := okA_lay h.2
    unfold PyData.showableAll layA PyData.hasDictAll
    rw [a1, a2, a3, b1, b2, b3]
    exact ⟨rfl, rfl, rfl⟩
end
theorem reprOk_of {d : PyData} (h : okD d = true) (h1 : sz d ≤ 16777216) (h2 : d.depth ≤ 60) : reprOk d = true := by
  obtain ⟨a1, a2, a3⟩ := okD_lay h
  unfold reprOk
  rw [a1, a2, a3, decide_eq_true h2, decide_eq_true (by rw [sizeLine_eq]; exact Nat.le_trans (shown_le h) h1)]
  rfl
@[simp] theorem reprD_ok {d : PyData} : reprD [d] = if reprOk d then some (.str d.shown) else none := rfl

/-! ### lists of one's own; calls with the source -/
def asL : PyData → Option (List PyData)
  | .list ds => some ds
  | _ => none
@[simp] theorem asL_list {ds : List PyData} : asL (.list ds) = some ds := rfl
@[simp] theorem lstAt_ap {i : Nat} {e : Ev} : lstAt i e = (e[i]?).join.bind asL := by
  unfold lstAt
  cases h : e[i]? with
  | none => rfl
  | some o =>
    cases o with
    | none => rfl
    | some d => cases d <;> rfl
@[simp] theorem mApp_ap {i : Nat} {m : M PyData} {e : Ev} : mApp i m e = (lstAt i e).bind fun _ => (m e).bind fun p => (lstAt i p.2).bind fun ds => if ds.length ≤ 1000000 then some (.none, p.2.set i (some (.list (ds ++ [p.1])))) else none := by
  unfold mApp
  cases lstAt i e with
  | none => rfl
  | some ds0 =>
    simp only [Option.bind_some]
    cases m e with
    | none => rfl
    | some p =>
      obtain ⟨y, e1⟩ := p
      simp only [Option.bind_some]
      cases h : lstAt i e1 with
      | none => simp [h]
      | some ds => simp [h]
@[simp] theorem noSlot_nil {i : Nat} : noSlot i [] = true := rfl
@[simp] theorem noSlot_val {i : Nat} {d : PyData} {r : List Opd} : noSlot i (.val d :: r) = noSlot i r := rfl
@[simp] theorem mCallS_ap {rk kd : Kd} {mf : List PyData → Option (PyData × List PyData)} {i n : Nat} {ma : M (List Opd)} {e : Ev} : mCallS rk kd mf i n ma e = (e[i]?).join.bind fun _ => (ma e).bind fun p => (p.2[i]?).join.bind fun s => (getAll p.1 p.2).bind fun ds =>
    if ds.length = n ∧ noSlot i p.1 = true then (mf (s :: ds)).bind fun r => r.2.head?.bind fun y => if p.1.any Opd.own && !(immK rk r.1 && decide (kd = .src)) then none else some (r.1, p.2.set i (some y)) else none := by
  unfold mCallS
  cases h : e[i]? with
  | none => rfl
  | some o =>
    cases o with
    | none => rfl
    | some d0 =>
      simp only [Option.join_some, Option.bind_some]
      cases h1 : ma e with
      | none => rfl
      | some p =>
        obtain ⟨os, e1⟩ := p
        simp only [Option.bind_some]
        cases h2 : e1[i]? with
        | none => simp [h2]
        | some o2 =>
          cases o2 with
          | none => simp [h2]
          | some s =>
            simp only [h2, Option.join_some, Option.bind_some]
            cases h3 : getAll os e1 with
            | none => simp [h3]
            | some ds =>
              simp only [h3, Option.bind_some]
              split
              · cases h4 : mf (s :: ds) with
                | none => rfl
                | some r =>
                  obtain ⟨d, l⟩ := r
                  cases l with
                  | nil => rfl
                  | cons y l => rfl
              · rfl
/-! ### shapes, equality, membership -/
section
variable {i j : Int} {xs ys : List PyData} {d : PyData}
@[simp] theorem shaped_ap : SeqAt.shaped d = (d.canLay0 && decide (d.depth ≤ 64)) := rfl
@[simp] theorem lay_n : PyData.none.canLay0 = true := by simp only [PyData.canLay0]
@[simp] theorem lay_b {b : Bool} : (PyData.bool b).canLay0 = true := by simp only [PyData.canLay0]
@[simp] theorem lay_i : (PyData.int i).canLay0 = true := by simp only [PyData.canLay0]
@[simp] theorem lay_s {x : Str} : (PyData.str x).canLay0 = PyData.strOk x := by simp only [PyData.canLay0]
@[simp] theorem lay_l : (PyData.list xs).canLay0 = PyData.canLayAll0 xs := by simp only [PyData.canLay0]
@[simp] theorem lay_t : (PyData.tuple xs).canLay0 = PyData.canLayAll0 xs := by simp only [PyData.canLay0]
@[simp] theorem layA_nil : PyData.canLayAll0 [] = true := by simp only [PyData.canLayAll0]
@[simp] theorem layA_cons : PyData.canLayAll0 (d :: xs) = (d.canLay0 && PyData.canLayAll0 xs) := by simp only [PyData.canLayAll0]
@[simp] theorem layA_ints {ns : List Int} : PyData.canLayAll0 (ns.map .int) = true := by
  induction ns with
  | nil => simp
  | cons n ns ih => simp [ih]
@[simp] theorem dep_n : PyData.none.depth = 0 := by simp only [PyData.depth]
@[simp] theorem dep_b {b : Bool} : (PyData.bool b).depth = 0 := by simp only [PyData.depth]
@[simp] theorem dep_i : (PyData.int i).depth = 0 := by simp only [PyData.depth]
@[simp] theorem dep_s {x : Str} : (PyData.str x).depth = 0 := by simp only [PyData.depth]
@[simp] theorem dep_l : (PyData.list xs).depth = PyData.depthAll xs + 1 := by simp only [PyData.depth]
@[simp] theorem dep_t : (PyData.tuple xs).depth = PyData.depthAll xs + 1 := by simp only [PyData.depth]
@[simp] theorem depA_nil : PyData.depthAll [] = 0 := by simp only [PyData.depthAll]
@[simp] theorem depA_cons : PyData.depthAll (d :: xs) = max d.depth (PyData.depthAll xs) := by simp only [PyData.depthAll]
@[simp] theorem depA_ints {ns : List Int} : PyData.depthAll (ns.map .int) = 0 := by
  induction ns with
  | nil => simp
  | cons n ns ih => simp [ih]
@[simp] theorem eqv_i : PyData.eqv (.int i) (.int j) = decide (i = j) := by
  unfold PyData.eqv
  rfl
@[simp] theorem eqv_b {a b : Bool} : PyData.eqv (.bool a) (.bool b) = decide (a = b) := by
  unfold PyData.eqv
  cases a <;> cases b <;> rfl
@[simp] theorem eqv_t : PyData.eqv (.tuple xs) (.tuple ys) = PyData.eqvAll xs ys := by simp only [PyData.eqv]
@[simp] theorem eqv_l : PyData.eqv (.list xs) (.list ys) = PyData.eqvAll xs ys := by simp only [PyData.eqv]
@[simp] theorem eqvA_nil : PyData.eqvAll [] [] = true := by simp only [PyData.eqvAll]
@[simp] theorem eqvA_cons {e : PyData} : PyData.eqvAll (d :: xs) (e :: ys) = (d.eqv e && PyData.eqvAll xs ys) := by simp only [PyData.eqvAll]
@[simp] theorem eqvA_nc {e : PyData} : PyData.eqvAll [] (e :: ys) = false := by simp only [PyData.eqvAll]
@[simp] theorem eqvA_cn : PyData.eqvAll (d :: xs) [] = false := by simp only [PyData.eqvAll]
mutual
theorem eqv_rfl : ∀ {d : PyData}, d.canLay0 = true → PyData.eqv d d = true
  | .none, _ => by simp only [PyData.eqv]
  | .bool b, _ => by simp
  | .int i, _ => by simp
  | .str x, _ => by
    simp only [PyData.eqv]
    exact beq_self_eq_true x
  | .list xs, h => by
    rw [lay_l] at h
    rw [eqv_l]
    exact eqvA_rfl h
  | .tuple xs, h => by
    rw [lay_t] at h
    rw [eqv_t]
    exact eqvA_rfl h
  | .dict _, h => by simp only [PyData.canLay0] at h; cases h
theorem eqvA_rfl : ∀ {ds : List PyData}, PyData.canLayAll0 ds = true → PyData.eqvAll ds ds = true
  | [], _ => by simp
  | x :: xs, h => by
    rw [layA_cons, Bool.and_eq_true] at h
    rw [eqvA_cons, eqv_rfl h.1, eqvA_rfl h.2]
    rfl
end
theorem eqD_t : eqD (.tuple xs) (.tuple ys) = if SeqAt.shaped (.tuple xs) && SeqAt.shaped (.tuple ys) then some (.bool (PyData.eqvAll xs ys)) else none := by
  unfold eqD eqB
  dsimp only
  split
  · rw [Option.map_some, eqv_t]
  · rfl
@[simp] theorem eqD_s {x y : Str} : eqD (.str x) (.str y) = some (.bool (decide (x = y))) := rfl
@[simp] theorem neD_s {x y : Str} : neD (.str x) (.str y) = some (.bool (!decide (x = y))) := rfl
@[simp] theorem inD_t : inD d (.tuple xs) = if SeqAt.shaped d && SeqAt.shaped (.tuple xs) then some (.bool (xs.any fun z => PyData.eqv z d)) else none := by
  show (if SeqAt.shaped d && SeqAt.shaped (.tuple xs) then some (xs.any fun z => PyData.eqv z d) else none).map PyData.bool = _
  split <;> rfl
@[simp] theorem inD_l : inD d (.list xs) = if SeqAt.shaped d && SeqAt.shaped (.list xs) then some (.bool (xs.any fun z => PyData.eqv z d)) else none := by
  show (if SeqAt.shaped d && SeqAt.shaped (.list xs) then some (xs.any fun z => PyData.eqv z d) else none).map PyData.bool = _
  split <;> rfl
@[simp] theorem notInD_t : notInD d (.tuple xs) = if SeqAt.shaped d && SeqAt.shaped (.tuple xs) then some (.bool (!(xs.any fun z => PyData.eqv z d))) else none := by
  show (if SeqAt.shaped d && SeqAt.shaped (.tuple xs) then some (xs.any fun z => PyData.eqv z d) else none).map (fun b => PyData.bool (!b)) = _
  split <;> rfl
@[simp] theorem notInD_l : notInD d (.list xs) = if SeqAt.shaped d && SeqAt.shaped (.list xs) then some (.bool (!(xs.any fun z => PyData.eqv z d))) else none := by
  show (if SeqAt.shaped d && SeqAt.shaped (.list xs) then some (xs.any fun z => PyData.eqv z d) else none).map (fun b => PyData.bool (!b)) = _
  split <;> rfl
theorem boolsOf_bools : ∀ bs : List Bool, boolsOf (bs.map .bool) = some bs
  | [] => rfl
  | b :: bs => by
    rw [List.map_cons]
    unfold boolsOf
    rw [boolsOf_bools bs]
theorem allD_bools {bs : List Bool} : allD [.list (bs.map .bool)] = some (.bool (bs.all id)) := by
  show (match boolsOf (bs.map .bool) with | some ns => some (PyData.bool (ns.all id)) | none => none) = _
  rw [boolsOf_bools]
theorem sumD_ints {ns : List Int} : sumD [.list (ns.map .int)] = some (.int ns.sum) := by
  show (match intsOf (ns.map .int) with | some ns => some (PyData.int ns.sum) | none => none) = _
  rw [intsOf_map]
@[simp] theorem itsOf_n : itsOf .none = none := rfl
end

theorem loopB_nx {g : St1} {body : B} {d : PyData} {r : List PyData} {e e1 e2 : Ev} (h1 : g d e = some e1) (h2 : body e1 = some (.nx e2)) : loopB g body (d :: r) e = loopB g body r e2 := by
  conv => lhs; unfold loopB
  rw [h1]
  dsimp only
  rw [h2]
theorem loopB_ct {g : St1} {body : B} {d : PyData} {r : List PyData} {e e1 e2 : Ev} (h1 : g d e = some e1) (h2 : body e1 = some (.ct e2)) : loopB g body (d :: r) e = loopB g body r e2 := by
  conv => lhs; unfold loopB
  rw [h1]
  dsimp only
  rw [h2]
theorem loopB_rt {g : St1} {body : B} {d x : PyData} {r : List PyData} {e e1 e2 : Ev} (h1 : g d e = some e1) (h2 : body e1 = some (.rt x e2)) : loopB g body (d :: r) e = some (.rt x e2) := by
  conv => lhs; unfold loopB
  rw [h1]
  dsimp only
  rw [h2]
@[simp] theorem loopB_nil {g : St1} {body : B} {e : Ev} : loopB g body [] e = some (.nx e) := rfl

@[simp] theorem sliceD_l {lo hi : Option Int} {ds : List PyData} : sliceD lo hi (.list ds) = some (.list (cutD ds lo hi)) := rfl
@[simp] theorem sliceD_t {lo hi : Option Int} {ds : List PyData} : sliceD lo hi (.tuple ds) = some (.tuple (cutD ds lo hi)) := rfl
@[simp] theorem tyD_i {i : Int} : tyD (.int i) = "int" := rfl
@[simp] theorem tyD_b {b : Bool} : tyD (.bool b) = "bool" := rfl
@[simp] theorem tyD_t {xs : List PyData} : tyD (.tuple xs) = "tuple" := rfl
@[simp] theorem tyD_l {xs : List PyData} : tyD (.list xs) = "list" := rfl
@[simp] theorem tyD_s {x : Str} : tyD (.str x) = "str" := rfl
@[simp] theorem tyD_n : tyD .none = "NoneType" := rfl
@[simp] theorem tyD_d {kvs : List (PyData × PyData)} : tyD (.dict kvs) = "dict" := rfl
@[simp] theorem isiOk_int : isiOk "int" = true := rfl
@[simp] theorem isiOk_bool : isiOk "bool" = true := rfl
@[simp] theorem isiOk_tuple : isiOk "tuple" = true := rfl
@[simp] theorem isiOk_list : isiOk "list" = true := rfl
@[simp] theorem isiOk_str : isiOk "str" = true := rfl
@[simp] theorem isiOk_dict : isiOk "dict" = true := rfl
def isInt : PyData → Bool
  | .int _ => true
  | .bool _ => true
  | _ => false
def isBool : PyData → Bool
  | .bool _ => true
  | _ => false
def isTup : PyData → Bool
  | .tuple _ => true
  | _ => false
@[simp] theorem isi_int {d : PyData} : isiT (tyD d) "int" = isInt d := by cases d <;> rfl
@[simp] theorem isi_bool {d : PyData} : isiT (tyD d) "bool" = isBool d := by cases d <;> rfl
@[simp] theorem isi_tuple {d : PyData} : isiT (tyD d) "tuple" = isTup d := by cases d <;> rfl
@[simp] theorem isInt_i {i : Int} : isInt (.int i) = true := rfl
@[simp] theorem isInt_b {i : Bool} : isInt (.bool i) = true := rfl
@[simp] theorem isInt_t {xs : List PyData} : isInt (.tuple xs) = false := rfl
@[simp] theorem isInt_l {xs : List PyData} : isInt (.list xs) = false := rfl
@[simp] theorem isInt_s {xs : Str} : isInt (.str xs) = false := rfl
@[simp] theorem isInt_n : isInt .none = false := rfl
@[simp] theorem isInt_d {kvs : List (PyData × PyData)} : isInt (.dict kvs) = false := rfl
@[simp] theorem isBool_i {i : Int} : isBool (.int i) = false := rfl
@[simp] theorem isBool_b {i : Bool} : isBool (.bool i) = true := rfl
@[simp] theorem isBool_t {xs : List PyData} : isBool (.tuple xs) = false := rfl
@[simp] theorem isBool_l {xs : List PyData} : isBool (.list xs) = false := rfl
@[simp] theorem isBool_s {xs : Str} : isBool (.str xs) = false := rfl
@[simp] theorem isBool_n : isBool .none = false := rfl
@[simp] theorem isTup_i {i : Int} : isTup (.int i) = false := rfl
@[simp] theorem isTup_b {i : Bool} : isTup (.bool i) = false := rfl
@[simp] theorem isTup_t {xs : List PyData} : isTup (.tuple xs) = true := rfl
@[simp] theorem isTup_l {xs : List PyData} : isTup (.list xs) = false := rfl
@[simp] theorem isTup_s {xs : Str} : isTup (.str xs) = false := rfl
@[simp] theorem isTup_n : isTup .none = false := rfl
@[simp] theorem isTup_d {kvs : List (PyData × PyData)} : isTup (.dict kvs) = false := rfl

@[simp] theorem allD_rep {n : Nat} : allD [.list (List.replicate n (.bool true))] = some (.bool true) := by
  rw [← List.map_replicate (f := PyData.bool), allD_bools]
  simp

/-! ### one of some, drawn -/
def mmOf : List PyData → Option (PyData × List PyData) := mDef .frz [.src, .frz] 2
  (sRet (mBin itemD (mVal (mVar 1)) (mVal (mCallS .frz .src mmPick 0 1 (mA (mVal (mCallB lenD (mA (mVal (mVar 1)) mA0))) mA0)))))
@[simp] theorem immK_frz {d : PyData} : immK .frz d = imm d := rfl

@[simp] theorem rngL_len {lo : Int} {n : Nat} : (rngL lo n).length = n := by simp [rngL]

section
variable {xs ys : List PyData} {d : PyData} {ns : List Int}
@[simp] theorem okD_i {i : Int} : okD (.int i) = decide (i.natAbs < 2 ^ 64) := by simp only [okD]
@[simp] theorem okD_b {b : Bool} : okD (.bool b) = true := by simp only [okD]
@[simp] theorem okD_n : okD .none = true := by simp only [okD]
@[simp] theorem okD_s {x : Str} : okD (.str x) = true := by simp only [okD]
@[simp] theorem okD_t : okD (.tuple xs) = okA xs := by simp only [okD]
@[simp] theorem okD_l : okD (.list xs) = okA xs := by simp only [okD]
@[simp] theorem okA_nil : okA [] = true := by simp only [okA]
@[simp] theorem okA_cons : okA (d :: xs) = (okD d && okA xs) := by simp only [okA]
@[simp] theorem okA_app : okA (xs ++ ys) = (okA xs && okA ys) := by
  induction xs with
  | nil => simp
  | cons x xs ih => simp [ih, Bool.and_assoc]
@[simp] theorem sz_i {i : Int} : sz (.int i) = 70 := by simp only [sz]
@[simp] theorem sz_b {b : Bool} : sz (.bool b) = 5 := by simp only [sz]
@[simp] theorem sz_n : sz .none = 4 := by simp only [sz]
@[simp] theorem sz_s {x : Str} : sz (.str x) = (reprText x).length := by simp only [sz]
@[simp] theorem sz_t : sz (.tuple xs) = szA xs + 3 := by simp only [sz]
@[simp] theorem sz_l : sz (.list xs) = szA xs + 3 := by simp only [sz]
@[simp] theorem szA_nil : szA [] = 0 := by simp only [szA]
@[simp] theorem szA_cons : szA (d :: xs) = sz d + 2 + szA xs := by simp only [szA]
@[simp] theorem szA_app : szA (xs ++ ys) = szA xs + szA ys := by
  induction xs with
  | nil => simp
  | cons x xs ih => simp [ih]; omega
@[simp] theorem szA_ints : szA (ns.map .int) = 72 * ns.length := by
  induction ns with
  | nil => simp
  | cons n ns ih => simp [ih]; omega
@[simp] theorem layA_app : PyData.canLayAll0 (xs ++ ys) = (PyData.canLayAll0 xs && PyData.canLayAll0 ys) := by
  induction xs with
  | nil => simp
  | cons x xs ih => simp [ih, Bool.and_assoc]
@[simp] theorem depA_app : PyData.depthAll (xs ++ ys) = max (PyData.depthAll xs) (PyData.depthAll ys) := by
  induction xs with
  | nil => simp
  | cons x xs ih => simp [ih, Nat.max_assoc]
end
/-- small and plain data -/
structure Fine (d : PyData) (n m : Nat) : Prop where
  ok : okD d = true
  lay : d.canLay0 = true
  size : sz d ≤ n
  dep : d.depth ≤ m
theorem Fine.repr {d : PyData} {n m : Nat} (h : Fine d n m) (hn : n ≤ 16777216) (hm : m ≤ 60) : reprOk d = true := reprOk_of h.ok (Nat.le_trans h.size hn) (Nat.le_trans h.dep hm)
theorem Fine.shaped {d : PyData} {n m : Nat} (h : Fine d n m) (hm : m ≤ 64) : SeqAt.shaped d = true := by
  rw [shaped_ap, h.lay, decide_eq_true (Nat.le_trans h.dep hm)]
  rfl

end DL

/-! DLT: the words of DLL..DLO, worked out. -/
namespace DL
open PySem PySem.Spec PyProof.Rows L2
section
variable {α β : Type} {e : Ev}
@[simp] theorem mEnum_ap {m : M PyData} : mEnum m e = (m e).bind fun p => (itsOf p.1).map fun ds => (enumL ds, p.2) := by
  simp [mEnum, Function.comp_def]
def zip2 : List PyData → Option (List PyData)
  | [d, e] => match itsOf d, itsOf e with
    | some ds, some es => zipL ds es
    | _, _ => none
  | _ => none
@[simp] theorem zip2_ap {d f : PyData} : zip2 [d, f] = (itsOf d).bind fun ds => (itsOf f).bind fun es => zipL ds es := by
  show (match itsOf d, itsOf f with | some ds, some es => zipL ds es | _, _ => none) = _
  cases itsOf d <;> cases itsOf f <;> rfl
@[simp] theorem mZip_ap {ma : M (List Opd)} : mZip ma e = (ma e).bind fun p => (allVal p.1).bind fun ds => (zip2 ds).map fun l => (l, p.2) := by
  unfold mZip
  simp only [bnd_ap]
  cases ma e with
  | none => rfl
  | some p =>
    simp only [Option.bind_some, lft_ap]
    cases allVal p.1 with
    | none => rfl
    | some ds =>
      match ds with
      | [] => rfl
      | [a] => rfl
      | [a, b] => rfl
      | a :: b :: c :: r => rfl
@[simp] theorem mS0_ap : mS0 e = some ([], e) := rfl
@[simp] theorem mSc_ap {m : M PyData} {r : M (List PyData)} : mSc m r e = (m e).bind fun p => (r p.2).map fun q => (p.1 :: q.1, q.2) := by
  simp only [mSc, bnd_ap, ret_ap]
  cases m e with
  | none => rfl
  | some p => cases h : r p.2 <;> simp [h]
@[simp] theorem mSs_ap {m : M PyData} {r : M (List PyData)} : mSs m r e = (m e).bind fun p => (r p.2).bind fun q => (itsOf p.1).map fun l => (l ++ q.1, q.2) := by
  simp [mSs, Function.comp_def]
@[simp] theorem mTupS_ap {ma : M (List PyData)} : mTupS ma e = (ma e).bind fun p => if p.1.length ≤ 1000000 then some (.tuple p.1, p.2) else none := by
  simp only [mTupS, bnd_ap, lft_ap]
  congr 1; funext p; split <;> rfl
@[simp] theorem mLstS_ap {ma : M (List PyData)} : mLstS ma e = (ma e).bind fun p => if p.1.length ≤ 1000000 then some (.list p.1, p.2) else none := by
  simp only [mLstS, bnd_ap, lft_ap]
  congr 1; funext p; split <;> rfl
@[simp] theorem mCat_ap {ma mb : M Opd} : mCat ma mb e = (ma e).bind fun p => (mb p.2).bind fun q => (p.1.get q.2).bind fun x => (q.1.get q.2).bind fun y => (asL x).bind fun xs => (asL y).bind fun ys => if xs.length + ys.length ≤ sizeLine then some (.list (xs ++ ys), q.2) else none := by
  simp only [mCat, bnd_ap]
  cases ma e with
  | none => rfl
  | some p =>
    simp only [Option.bind_some]
    cases mb p.2 with
    | none => rfl
    | some q =>
      simp only [Option.bind_some]
      cases p.1.get q.2 with
      | none => rfl
      | some x =>
        simp only [Option.bind_some]
        cases h : q.1.get q.2 with
        | none => cases x <;> rfl
        | some y => cases x <;> cases y <;> rfl
@[simp] theorem mRep_ap {ma : M (List Opd)} {mb : M PyData} : mRep ma mb e = (ma e).bind fun p => (mb p.2).bind fun q => (allVal p.1).bind fun ds => match q.1 with
    | .int k => if ds.length ≤ 1000 ∧ k.natAbs ≤ 10000 then some (.list (List.replicate k.toNat ds).flatten, q.2) else none
    | _ => none := by
  simp only [mRep, bnd_ap]
  cases ma e with
  | none => rfl
  | some p =>
    simp only [Option.bind_some]
    cases mb p.2 with
    | none => rfl
    | some q =>
      simp only [Option.bind_some, lft_ap]
      cases allVal p.1 with
      | none => cases q.1 <;> rfl
      | some ds =>
        cases q.1 <;> try rfl
        simp only [Option.bind_some]
        split <;> rfl
@[simp] theorem mRg1_ap {m : M PyData} : mRg1 m e = (m e).bind fun p => match p.1 with
    | .int j => if rgOk 0 j then some (((0 : Int), j), p.2) else none
    | _ => none := by
  simp only [mRg1, bnd_ap]
  cases m e with
  | none => rfl
  | some p =>
    simp only [Option.bind_some, lft_ap]
    cases p.1 <;> try rfl
    dsimp only
    split <;> rfl
@[simp] theorem mRg2_ap {m n : M PyData} : mRg2 m n e = (m e).bind fun p => (n p.2).bind fun q => match p.1, q.1 with
    | .int i, .int j => if rgOk i j then some ((i, j), q.2) else none
    | _, _ => none := by
  simp only [mRg2, bnd_ap]
  cases m e with
  | none => rfl
  | some p =>
    simp only [Option.bind_some]
    cases n p.2 with
    | none => rfl
    | some q =>
      simp only [Option.bind_some, lft_ap]
      cases p.1 <;> cases q.1 <;> try rfl
      dsimp only
      split <;> rfl
@[simp] theorem mLRg_ap {m : M (Int × Int)} : mLRg m e = (m e).map fun p => (.list (rngL p.1.1 (p.1.2 - p.1.1).toNat), p.2) := by
  simp only [mLRg, bnd_ap, ret_ap]
  cases m e <;> rfl
@[simp] theorem mTRg_ap {m : M (Int × Int)} : mTRg m e = (m e).map fun p => (.tuple (rngL p.1.1 (p.1.2 - p.1.1).toNat), p.2) := by
  simp only [mTRg, bnd_ap, ret_ap]
  cases m e <;> rfl
@[simp] theorem sParG_ap {m : M (List PyData)} {g : List PyData → Ev → Option Ev} : sParG m g e = (m e).bind fun p => (g p.1 p.2).map .nx := by
  unfold sParG
  cases m e with
  | none => rfl
  | some p => cases h : g p.1 p.2 <;> simp [h]
@[simp] theorem isD_n {d : PyData} : isD d .none = some (.bool (isNon d)) := by cases d <;> rfl
@[simp] theorem isD_bb {a b : Bool} : isD (.bool a) (.bool b) = some (.bool (decide (a = b))) := rfl
@[simp] theorem isNotD_n {d : PyData} : isNotD d .none = some (.bool (!isNon d)) := by cases d <;> rfl
@[simp] theorem isNotD_bb {a b : Bool} : isNotD (.bool a) (.bool b) = some (.bool (!decide (a = b))) := rfl
@[simp] theorem isNon_n : isNon .none = true := rfl
@[simp] theorem isNon_i {i : Int} : isNon (.int i) = false := rfl
@[simp] theorem isNon_b {i : Bool} : isNon (.bool i) = false := rfl
@[simp] theorem isNon_t {i : List PyData} : isNon (.tuple i) = false := rfl
@[simp] theorem isNon_l {i : List PyData} : isNon (.list i) = false := rfl
@[simp] theorem isNon_s {i : Str} : isNon (.str i) = false := rfl
/-! ### loops and comprehensions over mapped lists -/
theorem layA_all {ds : List PyData} (h : ∀ d ∈ ds, d.canLay0 = true) : PyData.canLayAll0 ds = true := by
  induction ds with
  | nil => simp
  | cons d ds ih => simp [h d List.mem_cons_self, ih fun x hx => h x (List.mem_cons_of_mem _ hx)]
theorem depA_all {ds : List PyData} {n : Nat} (h : ∀ d ∈ ds, d.depth ≤ n) : PyData.depthAll ds ≤ n := by
  induction ds with
  | nil => simp
  | cons d ds ih =>
    have h1 := h d List.mem_cons_self
    have h2 := ih fun x hx => h x (List.mem_cons_of_mem _ hx)
    simp only [depA_cons]
    omega
theorem immA_all {ds : List PyData} (h : ∀ d ∈ ds, imm d = true) : immA ds = true := by
  induction ds with
  | nil => rfl
  | cons d ds ih => simp [h d List.mem_cons_self, ih fun x hx => h x (List.mem_cons_of_mem _ hx)]
end
end DL

/-! TYA: mirrors read as plain typed functions. What a def's names hold is known slot by slot (Mt); XP: an expression of a type; XS: one that draws on a state (the source); XB: a block. -/
namespace DL
open PySem PySem.Spec PyProof.Rows L2

abbrev SL := List (Option (Option PyData))
structure Mt (e : Ev) (L : SL) : Prop where
  len : e.length = L.length
  at_ : ∀ (i : Nat) x, L[i]? = some (some x) → e[i]? = some x
def LEs : SL → SL → Prop
  | [], [] => True
  | none :: a, _ :: b => LEs a b
  | some x :: a, y :: b => y = some x ∧ LEs a b
  | _, _ => False
section
variable {e : Ev} {L L' : SL}
theorem Mt.set (h : Mt e L) (i : Nat) (x : Option PyData) : Mt (e.set i x) (L.set i (some x)) where
  len := by simp [h.len]
  at_ := fun j y hj => by
    rw [List.getElem?_set] at hj ⊢
    by_cases hij : i = j
    · subst hij
      simp only [if_pos] at hj ⊢
      split at hj
      · cases hj; rename_i hl; rw [if_pos (by rw [h.len]; exact hl)]
      · cases hj
    · rw [if_neg hij] at hj ⊢
      exact h.at_ j y hj
theorem LEs.get : ∀ {L' L : SL}, LEs L' L → L'.length = L.length ∧ ∀ (i : Nat) x, L'[i]? = some (some x) → L[i]? = some (some x)
  | [], [], _ => ⟨rfl, fun _ _ h => h⟩
  | none :: a, y :: b, h => by
    obtain ⟨l, g⟩ := LEs.get (L' := a) (L := b) h
    refine ⟨by simp [l], fun i x hi => ?_⟩
    cases i with
    | zero => simp at hi
    | succ i => rw [List.getElem?_cons_succ] at hi ⊢; exact g i x hi
  | some z :: a, y :: b, h => by
    obtain ⟨l, g⟩ := LEs.get (L' := a) (L := b) h.2
    have h1 : y = some z := h.1
    refine ⟨by simp [l], fun i x hi => ?_⟩
    cases i with
    | zero => rw [List.getElem?_cons_zero] at hi ⊢; rw [h1]; exact hi
    | succ i => rw [List.getElem?_cons_succ] at hi ⊢; exact g i x hi
  | [], _ :: _, h => h.elim
  | none :: _, [], h => h.elim
  | some _ :: _, [], h => h.elim
theorem Mt.weak (h : Mt e L) (w : LEs L' L) : Mt e L' := ⟨h.len.trans w.get.1.symm, fun i x hi => h.at_ i x (w.get.2 i x hi)⟩
theorem LEs.refl : ∀ {L : SL}, LEs L L
  | [] => trivial
  | none :: a => LEs.refl (L := a)
  | some _ :: a => ⟨rfl, LEs.refl (L := a)⟩
end
/-- targets' slots are wiped, and put back -/
def wipeL (L : SL) : List Nat → SL
  | [] => L
  | v :: vs => (wipeL L vs).set v (some none)
theorem Mt.wipe {e : Ev} {L : SL} (h : Mt e L) : ∀ vs : List Nat, Mt (wipeE e vs) (wipeL L vs)
  | [] => h
  | v :: vs => (Mt.wipe h vs).set v none
theorem wipeL_get {L : SL} : ∀ {vs : List Nat} {i : Nat}, i ∉ vs → (wipeL L vs)[i]? = L[i]?
  | [], i, _ => rfl
  | v :: vs, i, h => by
    unfold wipeL
    rw [List.getElem?_set_ne (fun z => h (by rw [z]; exact List.mem_cons_self)), wipeL_get fun z => h (List.mem_cons_of_mem _ z)]
theorem wipeL_len {L : SL} : ∀ vs : List Nat, (wipeL L vs).length = L.length
  | [] => rfl
  | v :: vs => by unfold wipeL; rw [List.length_set]; exact wipeL_len vs
/-- after a comprehension: what is known of the targets is what was known ahead of it -/
theorem Mt.back {e e2 : Ev} {L L2 : SL} {vs : List Nat} (h : Mt e L) (h2 : Mt e2 (wipeL L2 vs)) (hl : L.length = L2.length) (hv : ∀ i ∈ vs, ∀ x, L2[i]? = some (some x) → L[i]? = some (some x)) : Mt (backE e e2 vs) L2 where
  len := by rw [backE_len, h2.len, wipeL_len]
  at_ := fun i x hi => by
    rw [backE_get]
    have he : e2.length = L2.length := by rw [h2.len, wipeL_len]
    by_cases hm : i ∈ vs
    · have hl2 : i < L2.length := (List.getElem?_eq_some_iff.mp hi).1
      rw [if_pos ⟨hm, by omega⟩]
      have := h.at_ i x (hv i hm x hi)
      rw [List.getD_eq_getElem?_getD, this]
      rfl
    · rw [if_neg fun z => hm z.1]
      exact h2.at_ i x (by rw [wipeL_get hm]; exact hi)
/-! ### types -/
abbrev eI : Int → PyData := .int
abbrev eB : Bool → PyData := .bool
abbrev eS : Str → PyData := .str
abbrev eA : PyData → PyData := id
abbrev eN : Unit → PyData := fun _ => .none
section
variable {α β : Type}
abbrev eL (e : α → PyData) (l : List α) : PyData := .list (l.map e)
abbrev eT (e : α → PyData) (l : List α) : PyData := .tuple (l.map e)
abbrev eTu (f : α → List PyData) (v : α) : PyData := .tuple (f v)
abbrev f1 (e : α → PyData) (v : α) : List PyData := [e v]
abbrev fC (e : α → PyData) (f : β → List PyData) (v : α × β) : List PyData := e v.1 :: f v.2
abbrev f0 (_ : Unit) : List PyData := []
end
abbrev eX : Src → PyData := srcDt
def ImmE {α : Type} (e : α → PyData) : Prop := ∀ v, imm (e v) = true
def ImmF {α : Type} (f : α → List PyData) : Prop := ∀ v, immA (f v) = true
section
variable {α β : Type} {e : α → PyData} {f : β → List PyData}
theorem immI : ImmE eI := fun _ => rfl
theorem immB : ImmE eB := fun _ => rfl
theorem immTu (h : ImmF f) : ImmE (eTu f) := h
theorem imm1 (h : ImmE e) : ImmF (f1 e) := fun v => by show (imm (e v) && true) = true; rw [h v]; rfl
theorem immC (h : ImmE e) (h2 : ImmF f) : ImmF (fC e f) := fun v => by show (imm (e v.1) && immA (f v.2)) = true; rw [h v.1, h2 v.2]; rfl
end
structure EqF {α : Type} [DecidableEq α] (f : α → List PyData) (n : Nat) : Prop where
  eq : ∀ a b, PyData.eqvAll (f a) (f b) = decide (a = b)
  lay : ∀ a, PyData.canLayAll0 (f a) = true
  dep : ∀ a, PyData.depthAll (f a) ≤ n
/-- .. with a bound of the depth -/
structure EqN {α : Type} [DecidableEq α] (e : α → PyData) (n : Nat) : Prop where
  eq : ∀ a b, PyData.eqv (e a) (e b) = decide (a = b)
  lay : ∀ a, (e a).canLay0 = true
  dep : ∀ a, (e a).depth ≤ n
section
variable {α β : Type} [DecidableEq α] [DecidableEq β] {e : α → PyData} {f : β → List PyData} {n m : Nat}
theorem eqI : EqN eI 0 := ⟨fun a b => by simp, fun a => by simp, fun a => by simp⟩
theorem EqN.up (h : EqN e n) (hm : n ≤ m) : EqN e m := ⟨h.eq, h.lay, fun a => Nat.le_trans (h.dep a) hm⟩
theorem eqvA_map (h : EqN e n) : ∀ xs ys : List α, PyData.eqvAll (xs.map e) (ys.map e) = decide (xs = ys)
  | [], [] => by simp
  | [], y :: ys => by simp
  | x :: xs, [] => by simp
  | x :: xs, y :: ys => by
    rw [List.map_cons, List.map_cons, eqvA_cons, h.eq, eqvA_map h xs ys]
    by_cases h1 : x = y <;> by_cases h2 : xs = ys <;> simp [h1, h2]
theorem eqL (h : EqN e n) : EqN (eL e) (n + 1) := ⟨fun a b => by simp only [eqv_l]; exact eqvA_map h a b, fun a => by
    rw [lay_l]; exact layA_all fun d hd => by obtain ⟨x, _, rfl⟩ := List.mem_map.mp hd; exact h.lay x, fun a => by
    rw [dep_l]; exact Nat.succ_le_succ (depA_all fun d hd => by obtain ⟨x, _, rfl⟩ := List.mem_map.mp hd; exact h.dep x)⟩
theorem eqT (h : EqN e n) : EqN (eT e) (n + 1) := ⟨fun a b => by simp only [eqv_t]; exact eqvA_map h a b, fun a => by
    rw [lay_t]; exact layA_all fun d hd => by obtain ⟨x, _, rfl⟩ := List.mem_map.mp hd; exact h.lay x, fun a => by
    rw [dep_t]; exact Nat.succ_le_succ (depA_all fun d hd => by obtain ⟨x, _, rfl⟩ := List.mem_map.mp hd; exact h.dep x)⟩
theorem eqTu (h : EqF f n) : EqN (eTu f) (n + 1) := ⟨fun a b => by simp only [eqv_t]; exact h.eq a b, fun a => by rw [lay_t]; exact h.lay a, fun a => by rw [dep_t]; exact Nat.succ_le_succ (h.dep a)⟩
theorem eq1 (h : EqN e n) : EqF (f1 e) n := ⟨fun a b => by simp [h.eq], fun a => by simp [h.lay], fun a => by simp; exact h.dep a⟩
theorem eqC (h : EqN e n) (h2 : EqF f m) : EqF (fC e f) (max n m) := ⟨fun a b => by
    obtain ⟨a1, a2⟩ := a; obtain ⟨b1, b2⟩ := b
    show PyData.eqvAll (e a1 :: f a2) (e b1 :: f b2) = _
    rw [eqvA_cons, h.eq, h2.eq]
    by_cases h1 : a1 = b1 <;> by_cases h3 : a2 = b2 <;> simp [h1, h3], fun a => by
    show PyData.canLayAll0 (e a.1 :: f a.2) = true
    rw [layA_cons, h.lay, h2.lay]; rfl, fun a => by
    show PyData.depthAll (e a.1 :: f a.2) ≤ _
    rw [depA_cons]; have := h.dep a.1; have := h2.dep a.2; omega⟩
theorem EqN.shaped (h : EqN e n) (hn : n ≤ 64) (a : α) : SeqAt.shaped (e a) = true := by
  rw [shaped_ap, h.lay]; simp; exact Nat.le_trans (h.dep a) hn
theorem eqB_typed {d d' : PyData} (h1 : SeqAt.shaped d = true) (h2 : SeqAt.shaped d' = true) : eqB d d' = some (PyData.eqv d d') := by
  unfold eqB
  split
  · rename_i x y
    congr 1
  · rw [h1, h2]; rfl
theorem eqD_typed (h : EqN e n) (hn : n ≤ 64) (a b : α) : eqD (e a) (e b) = some (.bool (decide (a = b))) := by
  unfold eqD; rw [eqB_typed (h.shaped hn a) (h.shaped hn b), h.eq]; rfl
theorem neD_typed (h : EqN e n) (hn : n ≤ 64) (a b : α) : neD (e a) (e b) = some (.bool (!decide (a = b))) := by
  unfold neD; rw [eqB_typed (h.shaped hn a) (h.shaped hn b), h.eq]; rfl
end
end DL

namespace DL
open PySem PySem.Spec PyProof.Rows L2
/-! ### judgements -/
/-- an expression: where t tells v, the mirror tells its datum, and what is known of the names stays -/
def XP {α : Type} (enc : α → PyData) (m : M PyData) (L : SL) (t : Option α) : Prop := ∀ e, Mt e L → ∀ v, t = some v → ∃ e', m e = some (enc v, e') ∧ Mt e' L
def XT (m : M Bool) (L : SL) (t : Option Bool) : Prop := ∀ e, Mt e L → ∀ v, t = some v → ∃ e', m e = some (v, e') ∧ Mt e' L
def XO {α : Type} (enc : α → PyData) (own : Bool) (m : M Opd) (L : SL) (t : Option α) : Prop := ∀ e, Mt e L → ∀ v, t = some v → ∃ o e', m e = some (o, e') ∧ Mt e' L ∧ (∀ e2, Mt e2 L → o.get e2 = some (enc v)) ∧ o.own = own
def XA {α : Type} (own : Bool) (m : M (List Opd)) (L : SL) (t : Option α) (fs : α → List PyData) : Prop := ∀ e, Mt e L → ∀ v, t = some v → ∃ os e', m e = some (os, e') ∧ Mt e' L ∧ (∀ e2, Mt e2 L → getAll os e2 = some (fs v)) ∧ os.any Opd.own = own
/-- the datum's list that is walked -/
def XI {α : Type} (enc : α → PyData) (m : M (List PyData)) (L : SL) (t : Option (List α)) : Prop := ∀ e, Mt e L → ∀ v, t = some v → ∃ e', m e = some (v.map enc, e') ∧ Mt e' L
/-- .. with whatever becomes of the names -/
def XW {α : Type} (enc : α → PyData) (m : M PyData) (L : SL) (t : Option α) : Prop := ∀ e, Mt e L → ∀ v, t = some v → ∃ e', m e = some (enc v, e') ∧ e'.length = L.length
section
variable {α β γ : Type} {ea : α → PyData} {eb : β → PyData} {ec : γ → PyData} {L : SL} {o1 o2 own : Bool}
theorem XP.w {m : M PyData} {t : Option α} (h : XP ea m L t) : XW ea m L t := fun e he v hv => let ⟨e', h1, h2⟩ := h e he v hv; ⟨e', h1, h2.len⟩
theorem x_cv {m : M PyData} {t t' : Option α} (h : XP ea m L t) (q : t = t') : XP ea m L t' := q ▸ h
theorem xt_cv {m : M Bool} {t t' : Option Bool} (h : XT m L t) (q : t = t') : XT m L t' := q ▸ h
theorem xi_cv {m : M (List PyData)} {t t' : Option (List α)} (h : XI ea m L t) (q : t = t') : XI ea m L t' := q ▸ h
theorem xa_cv {m : M (List Opd)} {t t' : Option α} {fs : α → List PyData} (h : XA own m L t fs) (q : t = t') : XA own m L t' fs := q ▸ h
theorem x_up {m : M PyData} {t : Option α} (f : α → β) (q : ∀ v, eb (f v) = ea v) (h : XP ea m L t) : XP eb m L (t.map f) := fun e he v hv => by
  obtain ⟨x, hx, rfl⟩ := Option.map_eq_some_iff.mp hv
  rw [q]; exact h e he x hx
theorem x_var {i : Nat} {v : α} (h : L[i]? = some (some (some (ea v)))) : XP ea (mVar i) L (some v) := fun e he x hx => by
  cases hx
  have := he.at_ i _ h
  exact ⟨e, by rw [mVar_ap, this]; rfl, he⟩
theorem x_c {d : PyData} {v : α} (h : ea v = d) : XP ea (ret d) L (some v) := fun e he x hx => by
  cases hx
  exact ⟨e, by rw [h]; rfl, he⟩
theorem xo_val {m : M PyData} {t : Option α} (h : XP ea m L t) : XO ea false (mVal m) L t := fun e he v hv => by
  obtain ⟨e', h1, h2⟩ := h e he v hv
  exact ⟨.val (ea v), e', by rw [mVal_ap, h1]; rfl, h2, fun _ _ => rfl, rfl⟩
theorem xo_slot {i : Nat} {v : α} (h : L[i]? = some (some (some (ea v)))) : XO ea true (mSlot i) L (some v) := fun e he x hx => by
  cases hx
  have := he.at_ i _ h
  refine ⟨.slot i, e, by rw [mSlot_ap, this]; rfl, he, fun e2 h2 => ?_, rfl⟩
  rw [getO_slot, h2.at_ i _ h]; rfl
/-- an operand's result hangs on nothing that may be changed -/
def OkI {α : Type} (own : Bool) (e : α → PyData) : Prop := own = false ∨ ImmE e
theorem okf {e : α → PyData} : OkI false e := .inl rfl
theorem oki {own : Bool} {e : α → PyData} (h : ImmE e) : OkI own e := .inr h
theorem keepI_ok {e : α → PyData} {v : α} {en : Ev} (h : OkI own e) : keepI own (e v) en = some (e v, en) := by
  rcases h with rfl | h
  · rfl
  · unfold keepI; rw [h v]; simp
abbrev Op2T {α β γ : Type} (g : PyData → PyData → Option PyData) (ea : α → PyData) (eb : β → PyData) (ec : γ → PyData) (f : α → β → Option γ) : Prop := ∀ a b v, f a b = some v → g (ea a) (eb b) = some (ec v)
abbrev Op1T {α γ : Type} (g : PyData → Option PyData) (ea : α → PyData) (ec : γ → PyData) (f : α → Option γ) : Prop := ∀ a v, f a = some v → g (ea a) = some (ec v)
theorem x_bin {g : PyData → PyData → Option PyData} {ma mb : M Opd} {ta : Option α} {tb : Option β} {f : α → β → Option γ} (op : Op2T g ea eb ec f) (ha : XO ea o1 ma L ta) (hb : XO eb o2 mb L tb) (hi : OkI (o1 || o2) ec) :
    XP ec (mBin g ma mb) L (ta.bind fun a => tb.bind fun b => f a b) := fun e he v hv => by
  obtain ⟨a, h1, hv⟩ := Option.bind_eq_some_iff.mp hv
  obtain ⟨b, h2, hv⟩ := Option.bind_eq_some_iff.mp hv
  obtain ⟨x, e1, q1, q2, q3, rfl⟩ := ha e he a h1
  obtain ⟨y, e2, p1, p2, p3, rfl⟩ := hb e1 q2 b h2
  refine ⟨e2, ?_, p2⟩
  simp only [mBin_ap, rs2_ap]
  rw [q1]; simp only [Option.bind_some]
  rw [p1]; simp only [Option.bind_some]
  rw [q3 e2 p2, p3 e2 p2]; simp only [Option.bind_some]
  rw [op a b v hv]; simp only [Option.bind_some]
  exact keepI_ok hi
theorem x_un {g : PyData → Option PyData} {ma : M Opd} {ta : Option α} {f : α → Option γ} (op : Op1T g ea ec f) (ha : XO ea o1 ma L ta) (hi : OkI o1 ec) :
    XP ec (mUn g ma) L (ta.bind f) := fun e he v hv => by
  obtain ⟨a, h1, hv⟩ := Option.bind_eq_some_iff.mp hv
  obtain ⟨x, e1, q1, q2, q3, rfl⟩ := ha e he a h1
  refine ⟨e1, ?_, q2⟩
  simp only [mUn_ap, rs1_ap]
  rw [q1]; simp only [Option.bind_some]
  rw [q3 e1 q2]; simp only [Option.bind_some]
  rw [op a v hv]; simp only [Option.bind_some]
  exact keepI_ok hi
theorem xa_nil : XA false mA0 L (some ()) f0 := fun e he v hv => ⟨[], e, rfl, he, fun _ _ => rfl, rfl⟩
theorem xa_cons {m : M Opd} {r : M (List Opd)} {t : Option α} {t' : Option β} {fs : β → List PyData} (h : XO ea o1 m L t) (hr : XA o2 r L t' fs) : XA (o1 || o2) (mA m r) L (t.bind fun a => t'.map fun b => (a, b)) (fC ea fs) := fun e he v hv => by
  obtain ⟨a, h1, hv⟩ := Option.bind_eq_some_iff.mp hv
  obtain ⟨b, h2, rfl⟩ := Option.map_eq_some_iff.mp hv
  obtain ⟨x, e1, q1, q2, q3, q4⟩ := h e he a h1
  obtain ⟨os, e2, p1, p2, p3, p4⟩ := hr e1 q2 b h2
  refine ⟨x :: os, e2, by rw [mA_ap, q1]; simp only [Option.bind_some]; rw [p1]; rfl, p2, fun e3 h3 => ?_, ?_⟩
  · rw [getAll_cons, q3 e3 h3, p3 e3 h3]; rfl
  · rw [List.any_cons, q4, p4]
theorem x_callB {g : List PyData → Option PyData} {m : M (List Opd)} {t : Option α} {fs : α → List PyData} {f : α → Option γ} (op : ∀ p v, f p = some v → g (fs p) = some (ec v)) (h : XA own m L t fs) (hi : OkI own ec) : XP ec (mCallB g m) L (t.bind f) := fun e he v hv => by
  obtain ⟨a, h1, hv⟩ := Option.bind_eq_some_iff.mp hv
  obtain ⟨os, e1, q1, q2, q3, rfl⟩ := h e he a h1
  refine ⟨e1, ?_, q2⟩
  simp only [mCallB_ap, rsN_ap]
  rw [q1]; simp only [Option.bind_some]
  rw [q3 e1 q2]; simp only [Option.bind_some]
  rw [op a v hv]; simp only [Option.bind_some]
  exact keepI_ok hi
/-- a def that keeps to a typed function -/
def FT {α γ : Type} (mf : List PyData → Option (PyData × List PyData)) (n : Nat) (fs : α → List PyData) (ec : γ → PyData) (f : α → Option γ) : Prop := ∀ p v, f p = some v → (fs p).length = n ∧ ∃ outs, mf (fs p) = some (ec v, outs)
def OkK {α : Type} (own : Bool) (rk : Kd) (e : α → PyData) : Prop := own = false ∨ ∀ v, immK rk (e v) = true
theorem okk {rk : Kd} {e : α → PyData} : OkK false rk e := .inl rfl
theorem x_call {rk : Kd} {n : Nat} {mf : List PyData → Option (PyData × List PyData)} {m : M (List Opd)} {t : Option α} {fs : α → List PyData} {f : α → Option γ} (F : FT mf n fs ec f) (h : XA own m L t fs) (hi : OkK own rk ec) : XP ec (mCall rk n mf m) L (t.bind f) := fun e he v hv => by
  obtain ⟨a, h1, hv⟩ := Option.bind_eq_some_iff.mp hv
  obtain ⟨os, e1, q1, q2, q3, q4⟩ := h e he a h1
  obtain ⟨hn, outs, hf⟩ := F a v hv
  refine ⟨e1, ?_, q2⟩
  rw [mCall_ap, q1]; simp only [Option.bind_some]
  rw [rsK_ap, q3 e1 q2]; simp only [Option.bind_some]
  rw [if_pos hn, hf]; simp only [Option.map_some, Option.bind_some]
  rw [q4]
  rcases hi with rfl | hi
  · rfl
  · rw [hi v]; simp
theorem allVal_of {os : List Opd} {ds : List PyData} {e : Ev} (h : getAll os e = some ds) (hn : os.any Opd.own = false) : allVal os = some ds := by
  induction os generalizing ds with
  | nil => cases h; rfl
  | cons o os ih =>
    rw [List.any_cons, Bool.or_eq_false_iff] at hn
    cases o with
    | slot i => simp at hn
    | val d =>
      rw [getAll_cons, getO_val, Option.bind_some] at h
      obtain ⟨r, hr, rfl⟩ := Option.map_eq_some_iff.mp h
      rw [allVal_val, ih hr hn.2]; rfl
theorem x_tup {m : M (List Opd)} {t : Option α} {fs : α → List PyData} (h : XA false m L t fs) (hl : ∀ p, (fs p).length ≤ 1000) : XP (eTu fs) (mTup m) L t := fun e he v hv => by
  obtain ⟨os, e1, q1, q2, q3, q4⟩ := h e he v hv
  refine ⟨e1, ?_, q2⟩
  rw [mTup_ap, q1]; simp only [Option.bind_some]
  rw [allVal_of (q3 e1 q2) q4]; simp only [Option.bind_some]
  rw [if_pos (hl v)]
theorem x_lst {m : M (List Opd)} {t : Option α} {fs : α → List PyData} (h : XA false m L t fs) (hl : ∀ p, (fs p).length ≤ 1000) : XP (fun p => .list (fs p)) (mLst m) L t := fun e he v hv => by
  obtain ⟨os, e1, q1, q2, q3, q4⟩ := h e he v hv
  refine ⟨e1, ?_, q2⟩
  rw [mLst_ap, q1]; simp only [Option.bind_some]
  rw [allVal_of (q3 e1 q2) q4]; simp only [Option.bind_some]
  rw [if_pos (hl v)]
/-! tests -/
theorem xt_test {m : M PyData} {t : Option Bool} (h : XP eB m L t) : XT (mTest m) L t := fun e he v hv => by
  obtain ⟨e1, q1, q2⟩ := h e he v hv
  exact ⟨e1, by rw [mTest_ap, q1]; rfl, q2⟩
theorem xt_not {m : M Bool} {t : Option Bool} (h : XT m L t) : XT (mNot m) L (t.map fun b => !b) := fun e he v hv => by
  obtain ⟨x, hx, rfl⟩ := Option.map_eq_some_iff.mp hv
  obtain ⟨e1, q1, q2⟩ := h e he x hx
  exact ⟨e1, by rw [mNot_ap, q1]; rfl, q2⟩
theorem xt_and {m n : M Bool} {t t' : Option Bool} (h : XT m L t) (h' : XT n L t') : XT (mAnd m n) L (t.bind fun a => if a = true then t' else some false) := fun e he v hv => by
  obtain ⟨x, hx, hv⟩ := Option.bind_eq_some_iff.mp hv
  obtain ⟨e1, q1, q2⟩ := h e he x hx
  cases x with
  | false => cases hv; exact ⟨e1, by rw [mAnd_ap, q1]; rfl, q2⟩
  | true =>
    obtain ⟨e2, p1, p2⟩ := h' e1 q2 v hv
    exact ⟨e2, by rw [mAnd_ap, q1]; exact p1, p2⟩
theorem xt_or {m n : M Bool} {t t' : Option Bool} (h : XT m L t) (h' : XT n L t') : XT (mOr m n) L (t.bind fun a => if a = true then some true else t') := fun e he v hv => by
  obtain ⟨x, hx, hv⟩ := Option.bind_eq_some_iff.mp hv
  obtain ⟨e1, q1, q2⟩ := h e he x hx
  cases x with
  | true => cases hv; exact ⟨e1, by rw [mOr_ap, q1]; rfl, q2⟩
  | false =>
    obtain ⟨e2, p1, p2⟩ := h' e1 q2 v hv
    exact ⟨e2, by rw [mOr_ap, q1]; exact p1, p2⟩
theorem xt_andT {m n : M Bool} {t : Option Bool} {b : Bool} (h : XT m L t) (h' : XT n L (some b)) : XT (mAnd m n) L (t.map fun a => a && b) := fun e he v hv => by
  obtain ⟨x, hx, rfl⟩ := Option.map_eq_some_iff.mp hv
  refine xt_and h h' e he _ ?_
  rw [hx]; cases x <;> rfl
theorem XP_of_XT {m : M PyData} {t : Option Bool} (h : XT (mTest m) L t) : XP eB m L t := fun e he v hv => by
  obtain ⟨e1, q1, q2⟩ := h e he v hv
  exact ⟨e1, mTest_bool q1, q2⟩
theorem mTest_and {m n : M PyData} : mTest (mAndV m n) = mAnd (mTest m) (mTest n) := by
  funext e
  simp only [mTest_ap, mAndV_ap, mAnd_ap]
  cases m e with
  | none => rfl
  | some p =>
    simp only [Option.bind_some]
    cases bOf p.1 with
    | none => rfl
    | some b => cases b <;> simp
theorem mTest_not {m : M PyData} : mTest (mNotV m) = mNot (mTest m) := by
  funext e
  simp only [mTest_ap, mNotV_ap, mNot_ap]
  cases m e with
  | none => rfl
  | some p =>
    simp only [Option.bind_some]
    cases bOf p.1 <;> simp
theorem x_and {m n : M PyData} {t t' : Option Bool} (h : XP eB m L t) (h' : XP eB n L t') : XP eB (mAndV m n) L (t.bind fun a => if a = true then t' else some false) := XP_of_XT (by rw [mTest_and]; exact xt_and (xt_test h) (xt_test h'))
theorem x_andT {m n : M PyData} {t : Option Bool} {b : Bool} (h : XP eB m L t) (h' : XP eB n L (some b)) : XP eB (mAndV m n) L (t.map fun a => a && b) := XP_of_XT (by rw [mTest_and]; exact xt_andT (xt_test h) (xt_test h'))
theorem x_not {m : M PyData} {t : Option Bool} (h : XP eB m L t) : XP eB (mNotV m) L (t.map fun b => !b) := XP_of_XT (by rw [mTest_not]; exact xt_not (xt_test h))
/-! where the parts are values -/
theorem x_binT {g : PyData → PyData → Option PyData} {ma mb : M Opd} {a : α} {b : β} {f : α → β → Option γ} (op : Op2T g ea eb ec f) (ha : XO ea o1 ma L (some a)) (hb : XO eb o2 mb L (some b)) (hi : OkI (o1 || o2) ec) : XP ec (mBin g ma mb) L (f a b) := x_bin op ha hb hi
theorem x_callBT {g : List PyData → Option PyData} {m : M (List Opd)} {p : α} {fs : α → List PyData} {f : α → Option γ} (op : ∀ p v, f p = some v → g (fs p) = some (ec v)) (h : XA own m L (some p) fs) (hi : OkI own ec) : XP ec (mCallB g m) L (f p) := x_callB op h hi
theorem x_callT {rk : Kd} {n : Nat} {mf : List PyData → Option (PyData × List PyData)} {m : M (List Opd)} {p : α} {fs : α → List PyData} {f : α → Option γ} (F : FT mf n fs ec f) (h : XA own m L (some p) fs) (hi : OkK own rk ec) : XP ec (mCall rk n mf m) L (f p) := x_call F h hi
end
end DL

namespace DL
open PySem PySem.Spec PyProof.Rows L2
/-! ### operators at their types -/
section
variable {α β γ : Type} {ea : α → PyData} {eb : β → PyData} {ec : γ → PyData} {L : SL} {o1 o2 own : Bool}
theorem q_add : Op2T addD eI eI eI fun a b => some (a + b) := fun a b v h => by cases h; rfl
theorem q_sub : Op2T subD eI eI eI fun a b => some (a - b) := fun a b v h => by cases h; rfl
def mulT (a b : Int) : Option Int := if mulOk a b = true then some (a * b) else none
theorem q_mul : Op2T mulD eI eI eI mulT := fun a b v h => by
  unfold mulT at h
  split at h
  · rename_i hm; cases h; show (if mulOk a b = true then some (PyData.int (a * b)) else none) = _; rw [if_pos hm]
  · cases h
theorem q_neg : Op1T negD eI eI fun a => some (-a) := fun a v h => by cases h; rfl
theorem q_lt : Op2T ltD eI eI eB fun a b => some (decide (a < b)) := fun a b v h => by cases h; rfl
theorem q_gt : Op2T gtD eI eI eB fun a b => some (decide (b < a)) := fun a b v h => by cases h; rfl
theorem q_eq [DecidableEq α] {n : Nat} (h : EqN ea n) (hn : n ≤ 64 := by decide) : Op2T eqD ea ea eB fun a b => some (decide (a = b)) := fun a b v q => by cases q; exact eqD_typed h hn a b
theorem q_ne [DecidableEq α] {n : Nat} (h : EqN ea n) (hn : n ≤ 64 := by decide) : Op2T neD ea ea eB fun a b => some (!decide (a = b)) := fun a b v q => by cases q; exact neD_typed h hn a b
theorem q_neS : Op2T neD eS eS eB fun a b => some (!decide (a = b)) := fun a b v q => by cases q; rfl
/-- membership -/
def memT {α : Type} [DecidableEq α] (a : α) (l : List α) : Bool := decide (a ∈ l)
@[simp] theorem memT_eq {α : Type} [DecidableEq α] {a : α} {l : List α} : memT a l = decide (a ∈ l) := rfl
def catT {α : Type} (a b : List α) : Option (List α) := if a.length + b.length ≤ sizeLine then some (a ++ b) else none
theorem q_catT : Op2T addD (eT ea) (eT ea) (eT ea) catT := fun a b v h => by
  unfold catT at h
  split at h
  · rename_i hm; cases h
    show (if (a.map ea).length + (b.map ea).length ≤ sizeLine then some (PyData.tuple (a.map ea ++ b.map ea)) else none) = _
    rw [List.length_map, List.length_map, if_pos hm, ← List.map_append]
  · cases h
theorem atI_map {f : α → β} {xs : List α} {i : Int} : atI (xs.map f) i = (atI xs i).map f := by
  unfold atI
  rw [List.length_map]
  cases ixN xs.length i with
  | none => rfl
  | some j => simp
/-! slices -/
def cutT {α : Type} (xs : List α) (lo hi : Option Int) : List α := (xs.drop (HT.sIx xs.length 0 lo)).take (HT.sIx xs.length xs.length hi - HT.sIx xs.length 0 lo)
def XQ (m : M (Option Int)) (L : SL) (t : Option (Option Int)) : Prop := ∀ e, Mt e L → ∀ v, t = some v → ∃ e', m e = some (v, e') ∧ Mt e' L
theorem xq_none : XQ mNoPart L (some none) := fun e he v hv => by cases hv; exact ⟨e, rfl, he⟩
theorem xq_some {m : M PyData} {t : Option Int} (h : XP eI m L t) : XQ (mPart m) L (t.map some) := fun e he v hv => by
  obtain ⟨x, hx, rfl⟩ := Option.map_eq_some_iff.mp hv
  obtain ⟨e1, q1, q2⟩ := h e he x hx
  exact ⟨e1, by rw [mPart_ap, q1]; rfl, q2⟩
theorem xq_cv {m : M (Option Int)} {t t' : Option (Option Int)} (h : XQ m L t) (q : t = t') : XQ m L t' := q ▸ h
/-! built-ins -/
theorem q_tupL : ∀ (p : List α × Unit) v, (fun p : List α × Unit => some p.1) p = some v → tupleD (fC (eL ea) f0 p) = some (eT ea v) := fun p v h => by cases h; rfl
theorem q_lstT : ∀ (p : List α × Unit) v, (fun p : List α × Unit => some p.1) p = some v → listD (fC (eT ea) f0 p) = some (eL ea v) := fun p v h => by cases h; rfl
theorem q_sum : ∀ (p : List Int × Unit) v, (fun p : List Int × Unit => some p.1.sum) p = some v → sumD (fC (eL eI) f0 p) = some (eI v) := fun p v h => by cases h; exact sumD_ints
theorem q_all : ∀ (p : List Bool × Unit) v, (fun p : List Bool × Unit => some (p.1.all id)) p = some v → allD (fC (eL eB) f0 p) = some (eB v) := fun p v h => by cases h; exact allD_bools
def reprT (d : PyData) : Option Str := if reprOk d = true then some d.shown else none
theorem q_repr : ∀ (p : α × Unit) v, (fun p : α × Unit => reprT (ea p.1)) p = some v → reprD (fC ea f0 p) = some (eS v) := fun p v h => by
  unfold reprT at h
  dsimp only at h
  split at h
  · rename_i hr; cases h; show reprD [ea p.1] = _; rw [reprD_ok, if_pos hr]
  · cases h
/-- a built-in at data of any kind -/
theorem q_anyB {g : List PyData → Option PyData} : ∀ (p : α × Unit) v, (fun p : α × Unit => g [ea p.1]) p = some v → g (fC ea f0 p) = some (eA v) := fun p v h => h
theorem q_any2 {g : PyData → PyData → Option PyData} : Op2T g ea eb eA fun a b => g (ea a) (eb b) := fun a b v h => h
/-- .. whose result is of a type -/
theorem q_ext2 {g : PyData → PyData → Option PyData} {x : PyData → Option γ} (hx : ∀ d v, x d = some v → d = ec v) : Op2T g ea eb ec fun a b => (g (ea a) (eb b)).bind x := fun a b v h => by
  obtain ⟨d, h1, h2⟩ := Option.bind_eq_some_iff.mp h
  rw [h1, hx d v h2]
theorem q_extB {g : List PyData → Option PyData} {x : PyData → Option γ} (hx : ∀ d v, x d = some v → d = ec v) : ∀ (p : α × Unit) v, (fun p : α × Unit => (g [ea p.1]).bind x) p = some v → g (fC ea f0 p) = some (ec v) := fun p v h => by
  obtain ⟨d, h1, h2⟩ := Option.bind_eq_some_iff.mp h
  show g [ea p.1] = _
  rw [h1, hx d v h2]
theorem bOf_x : ∀ d v, bOf d = some v → d = eB v := fun d v h => by cases d <;> cases h; rfl
def asI : PyData → Option Int
  | .int i => some i
  | _ => none
theorem asI_x : ∀ d v, asI d = some v → d = eI v := fun d v h => by cases d <;> cases h; rfl
@[simp] theorem asI_i {i : Int} : asI (.int i) = some i := rfl
theorem x_isi {c : String} {m : M Opd} {t : Option α} (hc : isiOk c = true) (h : XO ea o1 m L t) : XP eB (mIsi c m) L (t.map fun a => isiT (tyD (ea a)) c) := fun e he v hv => by
  obtain ⟨x, hx, rfl⟩ := Option.map_eq_some_iff.mp hv
  obtain ⟨o, e1, q1, q2, q3, q4⟩ := h e he x hx
  refine ⟨e1, ?_, q2⟩
  rw [mIsi_ap, q1]; simp only [Option.bind_some]
  rw [rs1_ap, q3 e1 q2]; simp only [Option.bind_some]
  rw [if_pos hc]; simp only [Option.bind_some]
  exact keepI_ok (e := eB) (oki immB)
/-! cats of lists, repeated displays -/
/-! ### what is walked -/
/-- .. where something becomes of the names -/
def XI2 {α : Type} (enc : α → PyData) (m : M (List PyData)) (L : SL) (t : Option (List α)) (L' : SL) : Prop := ∀ e, Mt e L → ∀ v, t = some v → ∃ e', m e = some (v.map enc, e') ∧ Mt e' L'
theorem xi2 {m : M (List PyData)} {t : Option (List α)} (h : XI ea m L t) : XI2 ea m L t L := h
theorem xi2_take {i : Nat} {v : List α} (h : L[i]? = some (some (some (eL ea v)))) : XI2 ea (mIt (mTake i)) L (some v) (L.set i (some none)) := fun e he x hx => by
  cases hx
  have := he.at_ i _ h
  exact ⟨e.set i none, by rw [mIt_ap, mTake_ap, this]; rfl, he.set i none⟩
theorem xi_list {m : M PyData} {t : Option (List α)} (h : XP (eL ea) m L t) : XI ea (mIt m) L t := fun e he v hv => by
  obtain ⟨e1, q1, q2⟩ := h e he v hv
  exact ⟨e1, by rw [mIt_ap, q1]; rfl, q2⟩
theorem xi_tup {m : M PyData} {t : Option (List α)} (h : XP (eT ea) m L t) : XI ea (mIt m) L t := fun e he v hv => by
  obtain ⟨e1, q1, q2⟩ := h e he v hv
  exact ⟨e1, by rw [mIt_ap, q1]; rfl, q2⟩
theorem xi_any {m : M PyData} {t : Option PyData} (h : XP eA m L t) : XI eA (mIt m) L (t.bind itsOf) := fun e he v hv => by
  obtain ⟨x, hx, hv⟩ := Option.bind_eq_some_iff.mp hv
  obtain ⟨e1, q1, q2⟩ := h e he x hx
  refine ⟨e1, ?_, q2⟩
  rw [mIt_ap, q1]; simp only [Option.bind_some]
  show (itsOf x).map _ = _
  rw [hv]; simp
def rngT (lo hi : Int) : List Int := (List.range (hi - lo).toNat).map fun k : Nat => lo + (k : Int)
theorem rngL_T {lo : Int} {n : Nat} : rngL lo n = ((List.range n).map fun k : Nat => lo + (k : Int)).map eI := by simp [rngL]
def rng1T (j : Int) : Option (List Int) := if rng62 j = true then some (rngT 0 j) else none
def rng2T (i j : Int) : Option (List Int) := if rng62 i = true ∧ rng62 j = true then some (rngT i j) else none
theorem xi_rng1 {m : M (List Opd)} {t : Option (Int × Unit)} (h : XA false m L t (fC eI f0)) : XI eI (mRng rg1 m) L (t.bind fun p => rng1T p.1) := fun e he v hv => by
  obtain ⟨p, hp, hv⟩ := Option.bind_eq_some_iff.mp hv
  obtain ⟨os, e1, q1, q2, q3, q4⟩ := h e he p hp
  refine ⟨e1, ?_, q2⟩
  rw [mRng_ap, q1]; simp only [Option.bind_some]
  rw [allVal_of (q3 e1 q2) q4]; simp only [Option.bind_some]
  unfold rng1T at hv
  split at hv
  · rename_i hr; cases hv
    show (if rng62 p.1 = true then some (rngL 0 p.1.toNat) else none).map _ = _
    rw [if_pos hr, rngL_T]
    unfold rngT
    simp
  · cases hv
theorem xi_rng2 {m : M (List Opd)} {t : Option (Int × Int × Unit)} (h : XA false m L t (fC eI (fC eI f0))) : XI eI (mRng rg2 m) L (t.bind fun p => rng2T p.1 p.2.1) := fun e he v hv => by
  obtain ⟨p, hp, hv⟩ := Option.bind_eq_some_iff.mp hv
  obtain ⟨os, e1, q1, q2, q3, q4⟩ := h e he p hp
  refine ⟨e1, ?_, q2⟩
  rw [mRng_ap, q1]; simp only [Option.bind_some]
  rw [allVal_of (q3 e1 q2) q4]; simp only [Option.bind_some]
  unfold rng2T at hv
  split at hv
  · rename_i hr; cases hv
    show (if (rng62 p.1 && rng62 p.2.1) = true then some (rngL p.1 (p.2.1 - p.1).toNat) else none).map _ = _
    rw [if_pos (by rw [hr.1, hr.2]; rfl), rngL_T]
    rfl
  · cases hv
/-! ### targets -/
def XG (g : St1) (d : PyData) (L L' : SL) : Prop := ∀ e, Mt e L → ∃ e', g d e = some e' ∧ Mt e' L'
def XGs (g : List PyData → Ev → Option Ev) (ds : List PyData) (L L' : SL) : Prop := ∀ e, Mt e L → ∃ e', g ds e = some e' ∧ Mt e' L'
theorem xg_nm {i : Nat} {d : PyData} : XG (gNm i) d L (L.set i (some (some d))) := fun e he => ⟨_, rfl, he.set i _⟩
theorem xg_tu {n : Nat} {g : List PyData → Ev → Option Ev} {ds : List PyData} {L' : SL} (hl : ds.length = n) (h : XGs g ds L L') : XG (gTp n g) (.tuple ds) L L' := fun e he => by
  obtain ⟨e', h1, h2⟩ := h e he
  exact ⟨e', by rw [gTp_ap, if_pos hl]; exact h1, h2⟩
theorem xg_nil : XGs gNl [] L L := fun e he => ⟨e, rfl, he⟩
theorem xg_cons {g : St1} {r : List PyData → Ev → Option Ev} {d : PyData} {ds : List PyData} {L1 L2 : SL} (h : XG g d L L1) (h' : XGs r ds L1 L2) : XGs (gCn g r) (d :: ds) L L2 := fun e he => by
  obtain ⟨e1, q1, q2⟩ := h e he
  obtain ⟨e2, p1, p2⟩ := h' e1 q2
  exact ⟨e2, by rw [gCn_ap, q1]; exact p1, p2⟩
/-! ### comprehensions -/
/-- an expression, what is known of the names behind it -/
def XE {α : Type} (enc : α → PyData) (m : M PyData) (L : SL) (t : Option α) (L' : SL) : Prop := ∀ e, Mt e L → ∀ v, t = some v → ∃ e', m e = some (enc v, e') ∧ Mt e' L'
/-- a comprehension whose parts may fail -/
def compT {α β : Type} (p : α → Option Bool) (f : α → Option β) : List α → Option (List β)
  | [] => some []
  | x :: r => (p x).bind fun b => if b = true then (f x).bind fun y => (compT p f r).map (y :: ·) else compT p f r
def compG {α β : Type} (p : α → Option Bool) (f : α → Option β) (xs : List α) : Option (List β) := if xs.length ≤ 1000000 then compT p f xs else none
theorem compL_T {g : St1} {t : M Bool} {m : M PyData} {vs : List Nat} {p : α → Option Bool} {f : α → Option β} {L1 : α → SL} (hg : ∀ x, XG g (ea x) (wipeL L vs) (L1 x)) (ht : ∀ x, XT t (L1 x) (p x)) (hm : ∀ x, XP eb m (L1 x) (f x))
    (hw : ∀ x, LEs (wipeL L vs) (wipeL (L1 x) vs)) : ∀ {xs : List α} {e : Ev} {ys : List β}, Mt e (wipeL L vs) → compT p f xs = some ys → ∃ e', compL g t m vs (xs.map ea) e = some (ys.map eb, e') ∧ Mt e' (wipeL L vs)
  | [], e, ys, he, h => by cases h; exact ⟨e, rfl, he⟩
  | x :: r, e, ys, he, h => by
    unfold compT at h
    obtain ⟨b, hb, h⟩ := Option.bind_eq_some_iff.mp h
    obtain ⟨e1, q1, q2⟩ := hg x e he
    obtain ⟨e2, p1, p2⟩ := ht x e1 q2 b hb
    rw [List.map_cons]
    unfold compL
    rw [q1]; dsimp only
    rw [p1]
    cases b with
    | false =>
      dsimp only
      exact compL_T hg ht hm hw ((p2.wipe vs).weak (hw x)) h
    | true =>
      dsimp only
      rw [if_pos rfl] at h
      obtain ⟨y, hy, h⟩ := Option.bind_eq_some_iff.mp h
      obtain ⟨ys', hys, rfl⟩ := Option.map_eq_some_iff.mp h
      obtain ⟨e3, r1, r2⟩ := hm x e2 p2 y hy
      rw [r1]; dsimp only
      obtain ⟨e4, s1, s2⟩ := compL_T hg ht hm hw ((r2.wipe vs).weak (hw x)) hys
      rw [s1]
      exact ⟨e4, rfl, s2⟩
theorem x_comp {it : M (List PyData)} {g : St1} {t : M Bool} {m : M PyData} {vs : List Nat} {ti : Option (List α)} {p : α → Option Bool} {f : α → Option β} {L1 : α → SL} {L' : SL} (hi : XI2 ea it L' ti L) (hg : ∀ x, XG g (ea x) (wipeL L vs) (L1 x)) (hw : ∀ x, LEs (wipeL L vs) (wipeL (L1 x) vs)) (ht : ∀ x, XT t (L1 x) (p x)) (hm : ∀ x, XP eb m (L1 x) (f x)) :
    XE (eL eb) (mComp it g t m vs) L' (ti.bind fun xs => compG p f xs) L := fun e he v hv => by
  obtain ⟨xs, hx, hv⟩ := Option.bind_eq_some_iff.mp hv
  obtain ⟨e1, q1, q2⟩ := hi e he xs hx
  unfold compG at hv
  split at hv
  · rename_i hl
    obtain ⟨e2, p1, p2⟩ := compL_T hg ht hm hw (q2.wipe vs) hv
    refine ⟨_, ?_, q2.back (L2 := L) p2 rfl fun _ _ _ z => z⟩
    unfold mComp
    rw [q1]; dsimp only
    rw [if_pos (by rw [List.length_map]; exact hl), p1]
  · cases hv
theorem x_compI {it : M (List PyData)} {g : St1} {t : M Bool} {m : M PyData} {vs : List Nat} {ti : Option (List α)} {p : α → Option Bool} {f : α → Option β} {L1 : α → SL} (hi : XI ea it L ti) (hg : ∀ x, XG g (ea x) (wipeL L vs) (L1 x)) (hw : ∀ x, LEs (wipeL L vs) (wipeL (L1 x) vs)) (ht : ∀ x, XT t (L1 x) (p x)) (hm : ∀ x, XP eb m (L1 x) (f x)) :
    XP (eL eb) (mComp it g t m vs) L (ti.bind fun xs => compG p f xs) := x_comp hi hg hw ht hm
theorem x_compIT {it : M (List PyData)} {g : St1} {t : M Bool} {m : M PyData} {vs : List Nat} {xs : List α} {p : α → Option Bool} {f : α → Option β} {L1 : α → SL} (hi : XI ea it L (some xs)) (hg : ∀ x, XG g (ea x) (wipeL L vs) (L1 x)) (hw : ∀ x, LEs (wipeL L vs) (wipeL (L1 x) vs)) (ht : ∀ x, XT t (L1 x) (p x)) (hm : ∀ x, XP eb m (L1 x) (f x)) :
    XP (eL eb) (mComp it g t m vs) L (compG p f xs) := x_comp hi hg hw ht hm
theorem xi_rng1T {m : M (List Opd)} {i : Int} (h : XA false m L (some (i, ())) (fC eI f0)) : XI eI (mRng rg1 m) L (rng1T i) := xi_rng1 h
theorem xi_anyT {m : M PyData} {d : PyData} (h : XP eA m L (some d)) : XI eA (mIt m) L (itsOf d) := xi_any h
theorem xt_yes : XT mYes L (some true) := fun e he v hv => by cases hv; exact ⟨e, rfl, he⟩
theorem compT_some {p : α → Option Bool} {f : α → Option β} {p' : α → Bool} {f' : α → β} : ∀ {xs : List α}, (∀ x ∈ xs, p x = some (p' x)) → (∀ x ∈ xs, p' x = true → f x = some (f' x)) → compT p f xs = some ((xs.filter p').map f')
  | [], _, _ => rfl
  | x :: r, h1, h2 => by
    unfold compT
    rw [h1 x List.mem_cons_self, Option.bind_some, compT_some (fun y hy => h1 y (List.mem_cons_of_mem _ hy)) fun y hy => h2 y (List.mem_cons_of_mem _ hy)]
    cases hp : p' x with
    | false => rw [List.filter_cons_of_neg (by simp [hp])]; rfl
    | true => rw [List.filter_cons_of_pos hp, h2 x List.mem_cons_self hp]; rfl
theorem compG_some {p : α → Option Bool} {f : α → Option β} {xs : List α} (p' : α → Bool) (f' : α → β) (hl : xs.length ≤ 1000000) (h1 : ∀ x ∈ xs, p x = some (p' x)) (h2 : ∀ x ∈ xs, p' x = true → f x = some (f' x)) : compG p f xs = some ((xs.filter p').map f') := by
  unfold compG; rw [if_pos hl, compT_some h1 h2]
end
end DL

namespace DL
open PySem PySem.Spec PyProof.Rows L2
/-! ### blocks -/
def XB {τ : Type} (s : B) (L : SL) (t : Option τ) (R : τ → Out → Prop) : Prop := ∀ e, Mt e L → ∀ v, t = some v → ∃ o, s e = some o ∧ R v o
/-- how a block ends: by a return, at its end, by break, by continue -/
inductive Ctl (ρ σ : Type) where
  | rt (v : ρ) | nx (s : σ) | bk (s : σ) | ct (s : σ)
/-- a return of a value -/
def RV {α : Type} (n : Nat) (ea : α → PyData) (v : α) (o : Out) : Prop := ∃ e, o = .rt (ea v) e ∧ e.length = n
/-- .. of a def that draws on the source -/
def RVS {α : Type} (n : Nat) (ea : α → PyData) (v : α × Src) (o : Out) : Prop := ∃ e, o = .rt (ea v.1) e ∧ e.length = n ∧ e[0]? = some (some (eX v.2))
/-- the end of a block, the names then -/
def RN {σ : Type} (env : σ → SL) (s : σ) (o : Out) : Prop := ∃ e, o = .nx e ∧ Mt e (env s)
def RC {ρ σ : Type} (R : ρ → Out → Prop) (env : σ → SL) (c : Ctl ρ σ) (o : Out) : Prop := match c with
  | .rt v => R v o
  | .nx s => ∃ e, o = .nx e ∧ Mt e (env s)
  | .bk s => ∃ e, o = .bk e ∧ Mt e (env s)
  | .ct s => ∃ e, o = .ct e ∧ Mt e (env s)
section
variable {α β ρ σ τ : Type} {ea : α → PyData} {eb : β → PyData} {L : SL} {R : τ → Out → Prop}
theorem xb_cv {s : B} {t t' : Option τ} (h : XB s L t R) (q : t = t') : XB s L t' R := q ▸ h
theorem xb_weak {s : B} {t : Option τ} {L' : SL} (h : XB s L' t R) (w : LEs L' L) : XB s L t R := fun e he => h e (he.weak w)
/-- the end of a block that is gone on from -/
theorem xb_nx {env : σ → SL} {s : σ} (w : LEs (env s) L) : XB sNx L (some s) (RN env) := fun e he v hv => by
  cases hv; exact ⟨_, rfl, e, rfl, he.weak w⟩
theorem xb_nxc {Rr : ρ → Out → Prop} {env : σ → SL} {s : σ} (w : LEs (env s) L) : XB sNx L (some (Ctl.nx s)) (RC Rr env) := fun e he v hv => by
  cases hv; exact ⟨_, rfl, e, rfl, he.weak w⟩
/-- a last statement without the end behind it -/
theorem xb_seq_nx {s : B} {t : Option τ} (h : XB (sSeq s sNx) L t R) : XB s L t R := fun e he v hv => by
  obtain ⟨o, h1, h2⟩ := h e he v hv
  refine ⟨o, ?_, h2⟩
  rw [sSeq_ap] at h1
  cases q : s e with
  | none => rw [q] at h1; cases h1
  | some o' => rw [q] at h1; cases o' <;> exact h1
/-- names bound -/
theorem xb_asg {m : M PyData} {g : St1} {r : B} {t : Option α} {T : α → Option τ} {L1 : α → SL} (h : XP ea m L t) (hg : ∀ v, XG g (ea v) L (L1 v)) (hr : ∀ v, XB r (L1 v) (T v) R) : XB (sSeq (sAsg m g) r) L (t.bind T) R := fun e he v hv => by
  obtain ⟨x, hx, hv⟩ := Option.bind_eq_some_iff.mp hv
  obtain ⟨e1, q1, q2⟩ := h e he x hx
  obtain ⟨e2, p1, p2⟩ := hg x e1 q2
  obtain ⟨o, r1, r2⟩ := hr x e2 p2 v hv
  refine ⟨o, ?_, r2⟩
  rw [sSeq_ap, sAsg_ap, q1]; simp only [Option.bind_some]
  rw [p1]; exact r1
def stoL : List Nat → List PyData → SL → SL
  | i :: is, d :: ds, L => stoL is ds (L.set i (some (some d)))
  | _, _, L => L
theorem Mt.sto : ∀ {is : List Nat} {ds : List PyData} {e : Ev} {L : SL}, Mt e L → Mt (stoE is ds e) (stoL is ds L)
  | [], ds, e, L, h => by cases ds <;> exact h
  | i :: is, [], e, L, h => h
  | i :: is, d :: ds, e, L, h => Mt.sto (is := is) (ds := ds) (h.set i _)
def appT {α : Type} (l : List α) (x : α) : Option (List α) := if l.length ≤ 1000000 then some (l ++ [x]) else none
theorem appT_ok {l : List α} {x : α} (h : l.length ≤ 1000000) : appT l x = some (l ++ [x]) := if_pos h
/-- a return; k: what stands for it -/
theorem xb_ret {m : M PyData} {t : Option α} {k : α → τ} (hk : ∀ v e, e.length = L.length → R (k v) (.rt (ea v) e)) (h : XW ea m L t) : XB (sRet m) L (t.map k) R := fun e he v hv => by
  obtain ⟨x, hx, rfl⟩ := Option.map_eq_some_iff.mp hv
  obtain ⟨e1, q1, q2⟩ := h e he x hx
  exact ⟨_, by rw [sRet_ap, q1]; rfl, hk x e1 q2⟩
theorem xb_retI {α : Type} {ea : α → PyData} {L : SL} {R : α → Out → Prop} {m : M PyData} {t : Option α} (hk : ∀ v e, e.length = L.length → R v (.rt (ea v) e)) (h : XW ea m L t) : XB (sRet m) L t R := fun e he v hv => by
  obtain ⟨e1, q1, q2⟩ := h e he v hv
  exact ⟨_, by rw [sRet_ap, q1]; rfl, hk v e1 q2⟩
theorem rv_ok {α : Type} {ea : α → PyData} {n : Nat} {L : SL} (hl : L.length = n) : ∀ v e, e.length = L.length → RV n ea v (.rt (ea v) e) := fun v e he => ⟨e, rfl, he.trans hl⟩
theorem rv_rt {α : Type} {ea : α → PyData} {n : Nat} : ∀ v o, RV n ea v o → ∃ d e, o = .rt d e := fun v o ⟨e, h, _⟩ => ⟨_, e, h⟩
theorem rv_nn {α : Type} {ea : α → PyData} {n : Nat} : ∀ v o, RV n ea v o → ∀ e', o ≠ .nx e' := fun v o ⟨e, h, _⟩ e' q => by rw [h] at q; cases q
/-- if, where nothing is behind it, or where both parts leave -/
theorem xb_if {c : M Bool} {m n : B} {tc : Option Bool} {t t' : Option τ} (hc : XT c L tc) (h : XB m L t R) (h' : XB n L t' R) : XB (sIf c m n) L (tc.bind fun b => if b = true then t else t') R := fun e he v hv => by
  obtain ⟨x, hx, hv⟩ := Option.bind_eq_some_iff.mp hv
  obtain ⟨e1, q1, q2⟩ := hc e he x hx
  rw [sIf_ap, q1]
  cases x with
  | true => exact h e1 q2 v hv
  | false => exact h' e1 q2 v hv
/-- a block that doesn't end by itself -/
def Gone (s : B) : Prop := ∀ e o, s e = some o → ∀ e', o ≠ .nx e'
theorem gone_ret {m : M PyData} : Gone (sRet m) := fun e o h e' q => by
  subst q; rw [sRet_ap] at h; obtain ⟨x, _, h⟩ := Option.map_eq_some_iff.mp h; cases h
/-- if, then the rest: the first part leaves -/
theorem xb_ifG {c : M Bool} {m r : B} {tc : Option Bool} {t t' : Option τ} (hc : XT c L tc) (hm : Gone m) (h : XB m L t R) (h' : XB r L t' R) : XB (sSeq (sIf c m sNx) r) L (tc.bind fun b => if b = true then t else t') R := fun e he v hv => by
  obtain ⟨x, hx, hv⟩ := Option.bind_eq_some_iff.mp hv
  obtain ⟨e1, q1, q2⟩ := hc e he x hx
  rw [sSeq_ap, sIf_ap, q1]
  cases x with
  | true =>
    obtain ⟨o, r1, r2⟩ := h e1 q2 v hv
    refine ⟨o, ?_, r2⟩
    dsimp only [Option.bind_some]
    rw [if_pos rfl, r1]
    cases o with
    | nx e' => exact absurd rfl (hm e1 _ r1 e')
    | _ => rfl
  | false => exact h' e1 q2 v hv
theorem xb_ifGT {c : M Bool} {m r : B} {b : Bool} {t t' : Option τ} (hc : XT c L (some b)) (hm : Gone m) (h : XB m L t R) (h' : XB r L t' R) : XB (sSeq (sIf c m sNx) r) L (if b = true then t else t') R := xb_ifG hc hm h h'
/-- a part that goes on, then the rest -/
theorem xb_thn {s r : B} {t : Option σ} {env : σ → SL} {T : σ → Option τ} (h : XB s L t (RN env)) (hr : ∀ s, XB r (env s) (T s) R) : XB (sSeq s r) L (t.bind T) R := fun e he v hv => by
  obtain ⟨x, hx, hv⟩ := Option.bind_eq_some_iff.mp hv
  obtain ⟨o, q1, e1, rfl, q2⟩ := h e he x hx
  obtain ⟨o, r1, r2⟩ := hr x e1 q2 v hv
  exact ⟨o, by rw [sSeq_ap, q1]; exact r1, r2⟩
/-- a part that goes on or leaves -/
def ctlK {ρ σ τ : Type} (k : ρ → τ) (kb kc : σ → Option τ) (T : σ → Option τ) : Ctl ρ σ → Option τ
  | .rt v => some (k v)
  | .nx s => T s
  | .bk s => kb s
  | .ct s => kc s
theorem xb_thnC {s r : B} {t : Option (Ctl ρ σ)} {env : σ → SL} {T kb kc : σ → Option τ} {Rr : ρ → Out → Prop} {k : ρ → τ} (hk : ∀ v o, Rr v o → R (k v) o) (hg : ∀ v o, Rr v o → ∀ e', o ≠ .nx e')
    (hb : ∀ s v, kb s = some v → ∀ e, Mt e (env s) → R v (.bk e)) (hc : ∀ s v, kc s = some v → ∀ e, Mt e (env s) → R v (.ct e))
    (h : XB s L t (RC Rr env)) (hr : ∀ s, XB r (env s) (T s) R) : XB (sSeq s r) L (t.bind (ctlK k kb kc T)) R := fun e he v hv => by
  obtain ⟨x, hx, hv⟩ := Option.bind_eq_some_iff.mp hv
  obtain ⟨o, q1, q2⟩ := h e he x hx
  cases x with
  | rt w =>
    cases hv
    refine ⟨o, ?_, hk w o q2⟩
    rw [sSeq_ap, q1]
    cases o with
    | nx e' => exact absurd rfl (hg w _ q2 e')
    | _ => rfl
  | nx s =>
    obtain ⟨e1, rfl, q2⟩ := q2
    obtain ⟨o, r1, r2⟩ := hr s e1 q2 v hv
    exact ⟨o, by rw [sSeq_ap, q1]; exact r1, r2⟩
  | bk s =>
    obtain ⟨e1, rfl, q2⟩ := q2
    exact ⟨_, by rw [sSeq_ap, q1], hb s v hv e1 q2⟩
  | ct s =>
    obtain ⟨e1, rfl, q2⟩ := q2
    exact ⟨_, by rw [sSeq_ap, q1], hc s v hv e1 q2⟩
/-! ### loops -/
def forP {α σ : Type} (f : σ → α → Option σ) : List α → σ → Option σ
  | [], s => some s
  | x :: r, s => (f s x).bind (forP f r)
def forC {α ρ σ : Type} (f : σ → α → Option (Ctl ρ σ)) : List α → σ → Option (Ctl ρ σ)
  | [], s => some (.nx s)
  | x :: r, s => (f s x).bind fun c => match c with
    | .rt v => some (.rt v)
    | .nx s => forC f r s
    | .ct s => forC f r s
    | .bk s => some (.nx s)
theorem loopB_P {g : St1} {body : B} {f : σ → α → Option σ} {env : σ → SL} {L1 : σ → α → SL} (hg : ∀ s x, XG g (ea x) (env s) (L1 s x)) (hb : ∀ s x, XB body (L1 s x) (f s x) (RN env)) : ∀ {xs : List α} {s s' : σ} {e : Ev}, Mt e (env s) → forP f xs s = some s' → ∃ e', loopB g body (xs.map ea) e = some (.nx e') ∧ Mt e' (env s')
  | [], s, s', e, he, h => by cases h; exact ⟨e, rfl, he⟩
  | x :: r, s, s', e, he, h => by
    obtain ⟨s1, h1, h2⟩ := Option.bind_eq_some_iff.mp h
    obtain ⟨e1, q1, q2⟩ := hg s x e he
    obtain ⟨o, p1, e2, rfl, p2⟩ := hb s x e1 q2 s1 h1
    obtain ⟨e3, r1, r2⟩ := loopB_P hg hb p2 h2
    exact ⟨e3, (loopB_nx q1 p1).trans r1, r2⟩
theorem xb_for {it : M (List PyData)} {g : St1} {body : B} {ti : Option (List α)} {f : σ → α → Option σ} {env : σ → SL} {L1 : σ → α → SL} {s0 : σ} {L' : SL} (hi : XI2 ea it L' ti L) (w : LEs (env s0) L) (hg : ∀ s x, XG g (ea x) (env s) (L1 s x)) (hb : ∀ s x, XB body (L1 s x) (f s x) (RN env)) :
    XB (sFor it g body) L' (ti.bind fun xs => forP f xs s0) (RN env) := fun e he v hv => by
  obtain ⟨xs, hx, hv⟩ := Option.bind_eq_some_iff.mp hv
  obtain ⟨e1, q1, q2⟩ := hi e he xs hx
  obtain ⟨e2, p1, p2⟩ := loopB_P hg hb (q2.weak w) hv
  exact ⟨_, by rw [sFor_ap, q1]; exact p1, e2, rfl, p2⟩
theorem loopB_C {g : St1} {body : B} {f : σ → α → Option (Ctl ρ σ)} {env : σ → SL} {L1 : σ → α → SL} {Rr : ρ → Out → Prop} (hrt : ∀ v o, Rr v o → ∃ d e, o = .rt d e) (hg : ∀ s x, XG g (ea x) (env s) (L1 s x)) (hb : ∀ s x, XB body (L1 s x) (f s x) (RC Rr env)) :
    ∀ {xs : List α} {s : σ} {c : Ctl ρ σ} {e : Ev}, Mt e (env s) → forC f xs s = some c → ∃ o, loopB g body (xs.map ea) e = some o ∧ RC Rr env c o
  | [], s, c, e, he, h => by cases h; exact ⟨_, rfl, e, rfl, he⟩
  | x :: r, s, c, e, he, h => by
    obtain ⟨c1, h1, h2⟩ := Option.bind_eq_some_iff.mp h
    obtain ⟨e1, q1, q2⟩ := hg s x e he
    obtain ⟨o, p1, p2⟩ := hb s x e1 q2 c1 h1
    cases c1 with
    | rt v =>
      cases h2
      obtain ⟨d, e2, rfl⟩ := hrt v o p2
      exact ⟨_, loopB_rt q1 p1, p2⟩
    | nx s1 =>
      obtain ⟨e2, rfl, p2⟩ := p2
      obtain ⟨o, r1, r2⟩ := loopB_C hrt hg hb p2 h2
      exact ⟨o, (loopB_nx q1 p1).trans r1, r2⟩
    | ct s1 =>
      obtain ⟨e2, rfl, p2⟩ := p2
      obtain ⟨o, r1, r2⟩ := loopB_C hrt hg hb p2 h2
      exact ⟨o, (loopB_ct q1 p1).trans r1, r2⟩
    | bk s1 =>
      cases h2
      obtain ⟨e2, rfl, p2⟩ := p2
      refine ⟨.nx e2, ?_, e2, rfl, p2⟩
      rw [List.map_cons]
      unfold loopB
      rw [q1]; dsimp only; rw [p1]
theorem xb_forC {it : M (List PyData)} {g : St1} {body : B} {ti : Option (List α)} {f : σ → α → Option (Ctl ρ σ)} {env : σ → SL} {L1 : σ → α → SL} {s0 : σ} {Rr : ρ → Out → Prop} {L' : SL} (hrt : ∀ v o, Rr v o → ∃ d e, o = .rt d e) (hi : XI2 ea it L' ti L) (w : LEs (env s0) L) (hg : ∀ s x, XG g (ea x) (env s) (L1 s x)) (hb : ∀ s x, XB body (L1 s x) (f s x) (RC Rr env)) :
    XB (sFor it g body) L' (ti.bind fun xs => forC f xs s0) (RC Rr env) := fun e he v hv => by
  obtain ⟨xs, hx, hv⟩ := Option.bind_eq_some_iff.mp hv
  obtain ⟨e1, q1, q2⟩ := hi e he xs hx
  obtain ⟨o, p1, p2⟩ := loopB_C hrt hg hb (q2.weak w) hv
  exact ⟨o, by rw [sFor_ap, q1]; exact p1, p2⟩
/-! ### defs -/
theorem outsOf_frz : ∀ {pk : List Kd} {ds : List PyData} {e : Ev}, (pk.all fun k => decide (k = .frz) || decide (k = .pt)) = true → pk.length = ds.length → ds.length ≤ e.length → ∃ outs, outsOf pk ds e = some outs
  | [], [], e, _, _, _ => ⟨[], rfl⟩
  | .frz :: pk, d :: ds, x :: e, h, h2, h3 => by
    obtain ⟨outs, q⟩ := outsOf_frz (pk := pk) (ds := ds) (e := e) (by simpa using h) (by simpa using h2) (by simpa using h3)
    exact ⟨d :: outs, by simp only [outsOf, q]; rfl⟩
  | .pt :: pk, d :: ds, x :: e, h, h2, h3 => by
    obtain ⟨outs, q⟩ := outsOf_frz (pk := pk) (ds := ds) (e := e) (by simpa using h) (by simpa using h2) (by simpa using h3)
    exact ⟨d :: outs, by simp only [outsOf, q]; rfl⟩
  | [], _ :: _, _, _, h, _ => by simp at h
  | _ :: _, [], _, _, h, _ => by simp at h
  | .frz :: _, _ :: _, [], _, _, h => by simp at h
  | .pt :: _, _ :: _, [], _, _, h => by simp at h
  | .l1 :: _, _, _, h, _, _ => by simp at h
  | .l2 :: _, _, _, h, _, _ => by simp at h
  | .dk :: _, _, _, h, _, _ => by simp at h
  | .dt :: _, _, _, h, _, _ => by simp at h
  | .src :: _, _, _, h, _, _ => by simp at h
/-- a def by its body -/
theorem ft_of {pk : List Kd} {n k : Nat} {mb : B} {fs : α → List PyData} {f : α → Option β} (hp : (pk.all fun k => decide (k = .frz) || decide (k = .pt)) = true) (hl : ∀ p, (fs p).length = k) (hpk : pk.length = k) (hkn : k ≤ n)
    (h : ∀ p, XB mb ((fs p).map (fun d => some (some d)) ++ List.replicate (n - k) (some none)) (f p) (RV n eb)) : FT (mDef .frz pk n mb) k fs eb f := fun p v hv => by
  refine ⟨hl p, ?_⟩
  obtain ⟨o, q1, e1, rfl, q2⟩ := h p ((fs p).map some ++ List.replicate (n - (fs p).length) none) ⟨by simp [hl], fun i x hi => by
    rw [List.getElem?_append] at hi ⊢
    rw [List.length_map] at hi ⊢
    split at hi
    · rename_i hlt
      rw [if_pos hlt]
      rw [List.getElem?_map] at hi ⊢
      obtain ⟨d, hd, hx⟩ := Option.map_eq_some_iff.mp hi
      rw [hd]; cases hx; rfl
    · rename_i hlt
      rw [if_neg hlt]
      rw [List.getElem?_replicate] at hi ⊢
      rw [hl p] at hi ⊢
      split at hi
      · rename_i h2; rw [if_pos h2]; cases hi; rfl
      · cases hi⟩ v hv
  obtain ⟨outs, ho⟩ := outsOf_frz (pk := pk) (ds := fs p) (e := e1) hp (by rw [hl, hpk]) (by rw [hl, q2]; exact hkn)
  refine ⟨outs, ?_⟩
  unfold mDef
  rw [q1]
  dsimp only
  unfold finB
  rw [ho]; rfl
/-- .. that may give a list of its own -/
theorem ft_ofK {rk : Kd} {pk : List Kd} {n k : Nat} {mb : B} {fs : α → List PyData} {f : α → Option β} (hp : (pk.all fun k => decide (k = .frz) || decide (k = .pt)) = true) (hl : ∀ p, (fs p).length = k) (hpk : pk.length = k) (hkn : k ≤ n)
    (h : ∀ p, XB mb ((fs p).map (fun d => some (some d)) ++ List.replicate (n - k) (some none)) (f p) (RV n eb)) : FT (mDef rk pk n mb) k fs eb f := fun p v hv => by
  have := ft_of hp hl hpk hkn h p v hv
  obtain ⟨h1, outs, h2⟩ := this
  refine ⟨h1, outs, ?_⟩
  obtain ⟨o, q1, e1, rfl, q2⟩ := h p ((fs p).map some ++ List.replicate (n - (fs p).length) none) ⟨by simp [hl], fun i x hi => by
    rw [List.getElem?_append] at hi ⊢
    rw [List.length_map] at hi ⊢
    split at hi
    · rename_i hlt
      rw [if_pos hlt]
      rw [List.getElem?_map] at hi ⊢
      obtain ⟨d, hd, hx⟩ := Option.map_eq_some_iff.mp hi
      rw [hd]; cases hx; rfl
    · rename_i hlt
      rw [if_neg hlt]
      rw [List.getElem?_replicate] at hi ⊢
      rw [hl p] at hi ⊢
      split at hi
      · rename_i h2; rw [if_pos h2]; cases hi; rfl
      · cases hi⟩ v hv
  unfold mDef at h2 ⊢
  rw [q1] at h2 ⊢
  exact h2
end
end DL

namespace DL
open PySem PySem.Spec PyProof.Rows L2
/-! ### what draws on the source: name 0 of the def -/
def XS {α : Type} (enc : α → PyData) (m : M PyData) (L : Src → SL) (t : Src → Option (α × Src)) : Prop := ∀ s e, Mt e (L s) → ∀ v s', t s = some (v, s') → ∃ e', m e = some (enc v, e') ∧ Mt e' (L s')
def XSB (m : M Bool) (L : Src → SL) (t : Src → Option (Bool × Src)) : Prop := ∀ s e, Mt e (L s) → ∀ v s', t s = some (v, s') → ∃ e', m e = some (v, e') ∧ Mt e' (L s')
def XSO {α : Type} (si : Nat) (enc : α → PyData) (own : Bool) (m : M Opd) (L : Src → SL) (t : Src → Option (α × Src)) : Prop := ∀ s e, Mt e (L s) → ∀ v s', t s = some (v, s') → ∃ o e', m e = some (o, e') ∧ Mt e' (L s') ∧ (∀ s2 e2, Mt e2 (L s2) → o.get e2 = some (enc v)) ∧ o.own = own ∧ o ≠ .slot si
def XSA {α : Type} (si : Nat) (own : Bool) (m : M (List Opd)) (L : Src → SL) (t : Src → Option (α × Src)) (fs : α → List PyData) : Prop := ∀ s e, Mt e (L s) → ∀ v s', t s = some (v, s') → ∃ os e', m e = some (os, e') ∧ Mt e' (L s') ∧ (∀ s2 e2, Mt e2 (L s2) → getAll os e2 = some (fs v)) ∧ os.any Opd.own = own ∧ noSlot si os = true
def XSI {α : Type} (enc : α → PyData) (m : M (List PyData)) (L : Src → SL) (t : Src → Option (List α × Src)) : Prop := ∀ s e, Mt e (L s) → ∀ v s', t s = some (v, s') → ∃ e', m e = some (v.map enc, e') ∧ Mt e' (L s')
def XSM {α : Type} (m : M (List PyData)) (L : Src → SL) (t : Src → Option (α × Src)) (fs : α → List PyData) : Prop := ∀ s e, Mt e (L s) → ∀ v s', t s = some (v, s') → ∃ e', m e = some (fs v, e') ∧ Mt e' (L s')
/-- a step of the state behind another -/
abbrev thn2 {α β : Type} (a : Src → Option (α × Src)) (f : α → Src → Option (β × Src)) : Src → Option (β × Src) := fun s => (a s).bind fun p => f p.1 p.2
abbrev lif {α : Type} (t : Option α) : Src → Option (α × Src) := fun s => t.map fun v => (v, s)
section
variable {α β γ : Type} {ea : α → PyData} {eb : β → PyData} {ec : γ → PyData} {L : Src → SL} {o1 o2 own : Bool} {si : Nat}
theorem lif_some {t : Option α} {s s' : Src} {v : α} (h : lif t s = some (v, s')) : t = some v ∧ s' = s := by
  obtain ⟨x, hx, h2⟩ := Option.map_eq_some_iff.mp h
  cases h2
  exact ⟨hx, rfl⟩
theorem thn2_some {a : Src → Option (α × Src)} {f : α → Src → Option (β × Src)} {s s2 : Src} {v : β} (h : thn2 a f s = some (v, s2)) : ∃ x s1, a s = some (x, s1) ∧ f x s1 = some (v, s2) := by
  obtain ⟨⟨x, s1⟩, h1, h2⟩ := Option.bind_eq_some_iff.mp h
  exact ⟨x, s1, h1, h2⟩
theorem xs_pure {m : M PyData} {t : Option α} (h : ∀ s, XP ea m (L s) t) : XS ea m L (lif t) := fun s e he v s' hv => by
  obtain ⟨h1, rfl⟩ := lif_some hv
  exact h _ e he v h1
theorem xsb_pure {m : M Bool} {t : Option Bool} (h : ∀ s, XT m (L s) t) : XSB m L (lif t) := fun s e he v s' hv => by
  obtain ⟨h1, rfl⟩ := lif_some hv
  exact h _ e he v h1
theorem xs_cv {m : M PyData} {t t' : Src → Option (α × Src)} (h : XS ea m L t) (q : t = t') : XS ea m L t' := q ▸ h
theorem xsb_cv {m : M Bool} {t t' : Src → Option (Bool × Src)} (h : XSB m L t) (q : t = t') : XSB m L t' := q ▸ h
theorem xsa_cv {m : M (List Opd)} {t t' : Src → Option (α × Src)} {fs : α → List PyData} (h : XSA si own m L t fs) (q : t = t') : XSA si own m L t' fs := q ▸ h
theorem xsm_cv {m : M (List PyData)} {t t' : Src → Option (α × Src)} {fs : α → List PyData} (h : XSM m L t fs) (q : t = t') : XSM m L t' fs := q ▸ h
theorem xsi_cv {m : M (List PyData)} {t t' : Src → Option (List α × Src)} (h : XSI ea m L t) (q : t = t') : XSI ea m L t' := q ▸ h
theorem xs_up {m : M PyData} {t : Src → Option (α × Src)} (f : α → β) (q : ∀ v, eb (f v) = ea v) (h : XS ea m L t) : XS eb m L (thn2 t fun v s => some (f v, s)) := fun s e he v s' hv => by
  obtain ⟨x, s1, h1, h2⟩ := thn2_some hv
  cases h2
  rw [q]; exact h s e he x _ h1
theorem xso_val {m : M PyData} {t : Src → Option (α × Src)} (h : XS ea m L t) : XSO si ea false (mVal m) L t := fun s e he v s' hv => by
  obtain ⟨e', h1, h2⟩ := h s e he v s' hv
  exact ⟨.val (ea v), e', by rw [mVal_ap, h1]; rfl, h2, fun _ _ _ => rfl, rfl, fun q => by cases q⟩
theorem xs_bin {g : PyData → PyData → Option PyData} {ma mb : M Opd} {ta : Src → Option (α × Src)} {tb : Src → Option (β × Src)} {f : α → β → Option γ} (op : Op2T g ea eb ec f) (ha : XSO si ea o1 ma L ta) (hb : XSO si eb o2 mb L tb) (hi : OkI (o1 || o2) ec) :
    XS ec (mBin g ma mb) L (thn2 ta fun a => thn2 tb fun b => lif (f a b)) := fun s e he v s' hv => by
  obtain ⟨a, s1, h1, hv⟩ := thn2_some hv
  obtain ⟨b, s2, h2, hv⟩ := thn2_some hv
  obtain ⟨h3, rfl⟩ := lif_some hv
  obtain ⟨x, e1, q1, q2, q3, rfl, _⟩ := ha s e he a s1 h1
  obtain ⟨y, e2, p1, p2, p3, rfl, _⟩ := hb s1 e1 q2 b _ h2
  refine ⟨e2, ?_, p2⟩
  simp only [mBin_ap, rs2_ap]
  rw [q1]; simp only [Option.bind_some]
  rw [p1]; simp only [Option.bind_some]
  rw [q3 _ e2 p2, p3 _ e2 p2]; simp only [Option.bind_some]
  rw [op a b v h3]; simp only [Option.bind_some]
  exact keepI_ok hi
theorem xsa_nil : XSA si false mA0 L (fun s => some ((), s)) f0 := fun s e he v s' hv => by cases hv; exact ⟨[], e, rfl, he, fun _ _ _ => rfl, rfl, rfl⟩
theorem xsa_cons {m : M Opd} {r : M (List Opd)} {t : Src → Option (α × Src)} {t' : Src → Option (β × Src)} {fs : β → List PyData} (h : XSO si ea o1 m L t) (hr : XSA si o2 r L t' fs) : XSA si (o1 || o2) (mA m r) L (thn2 t fun a => thn2 t' fun b s => some ((a, b), s)) (fC ea fs) := fun s e he v s' hv => by
  obtain ⟨a, s1, h1, hv⟩ := thn2_some hv
  obtain ⟨b, s2, h2, hv⟩ := thn2_some hv
  cases hv
  obtain ⟨x, e1, q1, q2, q3, q4, q5⟩ := h s e he a s1 h1
  obtain ⟨os, e2, p1, p2, p3, p4, p5⟩ := hr s1 e1 q2 b _ h2
  refine ⟨x :: os, e2, by rw [mA_ap, q1]; simp only [Option.bind_some]; rw [p1]; rfl, p2, fun s3 e3 h3 => ?_, ?_, ?_⟩
  · rw [getAll_cons, q3 s3 e3 h3, p3 s3 e3 h3]; rfl
  · rw [List.any_cons, q4, p4]
  · cases x with
    | val d => exact p5
    | slot j =>
      show (j != si && noSlot si os) = true
      rw [p5, Bool.and_true]
      have : j ≠ si := fun z => q5 (by rw [z])
      simpa using this
/-- a def that draws on the source -/
def FTS {α γ : Type} (mf : List PyData → Option (PyData × List PyData)) (n : Nat) (fs : α → List PyData) (ec : γ → PyData) (f : α → Src → Option (γ × Src)) : Prop := ∀ s p v s', f p s = some (v, s') → (fs p).length = n ∧ ∃ outs, mf (eX s :: fs p) = some (ec v, eX s' :: outs)
theorem xs_callS {rk : Kd} {n : Nat} {mf : List PyData → Option (PyData × List PyData)} {m : M (List Opd)} {t : Src → Option (α × Src)} {fs : α → List PyData} {f : α → Src → Option (γ × Src)} (F : FTS mf n fs ec f) (hL : ∀ s, (L s)[si]? = some (some (some (eX s)))) (hset : ∀ s s', (L s).set si (some (some (eX s'))) = L s')
    (h : XSA si own m L t fs) (hi : OkK own rk ec) : XS ec (mCallS rk .src mf si n m) L (thn2 t f) := fun s e he v s' hv => by
  obtain ⟨a, s1, h1, h3⟩ := thn2_some hv
  obtain ⟨os, e1, q1, q2, q3, q4, q5⟩ := h s e he a _ h1
  obtain ⟨hn, outs, hf⟩ := F s1 a v s' h3
  refine ⟨e1.set si (some (eX s')), ?_, by rw [← hset s1 s']; exact q2.set si _⟩
  rw [mCallS_ap, he.at_ si _ (hL s)]
  simp only [Option.join_some, Option.bind_some]
  rw [q1]; simp only [Option.bind_some]
  rw [q2.at_ si _ (hL s1)]
  simp only [Option.join_some, Option.bind_some]
  rw [q3 _ e1 q2]; simp only [Option.bind_some]
  rw [if_pos ⟨hn, q5⟩, hf]
  show (if os.any Opd.own && !(immK rk (ec v) && decide (Kd.src = Kd.src)) then none else some (ec v, e1.set si (some (eX s')))) = _
  rw [q4]
  rcases hi with rfl | hi
  · rfl
  · simp [hi v]
theorem xs_tup {m : M (List Opd)} {t : Src → Option (α × Src)} {fs : α → List PyData} (h : XSA si false m L t fs) (hl : ∀ p, (fs p).length ≤ 1000) : XS (eTu fs) (mTup m) L t := fun s e he v s' hv => by
  obtain ⟨os, e1, q1, q2, q3, q4, _⟩ := h s e he v s' hv
  refine ⟨e1, ?_, q2⟩
  rw [mTup_ap, q1]; simp only [Option.bind_some]
  rw [allVal_of (q3 _ e1 q2) q4]; simp only [Option.bind_some]
  rw [if_pos (hl v)]
theorem xsb_test {m : M PyData} {t : Src → Option (Bool × Src)} (h : XS eB m L t) : XSB (mTest m) L t := fun s e he v s' hv => by
  obtain ⟨e1, q1, q2⟩ := h s e he v s' hv
  exact ⟨e1, by rw [mTest_ap, q1]; rfl, q2⟩
theorem xsb_and {m n : M Bool} {t t' : Src → Option (Bool × Src)} (h : XSB m L t) (h' : XSB n L t') : XSB (mAnd m n) L (thn2 t fun a s => if a = true then t' s else some (false, s)) := fun s e he v s' hv => by
  obtain ⟨x, s1, h1, hv⟩ := thn2_some hv
  obtain ⟨e1, q1, q2⟩ := h s e he x _ h1
  cases x with
  | false => cases hv; exact ⟨e1, by rw [mAnd_ap, q1]; rfl, q2⟩
  | true =>
    obtain ⟨e2, p1, p2⟩ := h' _ e1 q2 v _ hv
    exact ⟨e2, by rw [mAnd_ap, q1]; exact p1, p2⟩
theorem xsb_or {m n : M Bool} {t t' : Src → Option (Bool × Src)} (h : XSB m L t) (h' : XSB n L t') : XSB (mOr m n) L (thn2 t fun a s => if a = true then some (true, s) else t' s) := fun s e he v s' hv => by
  obtain ⟨x, s1, h1, hv⟩ := thn2_some hv
  obtain ⟨e1, q1, q2⟩ := h s e he x _ h1
  cases x with
  | true => cases hv; exact ⟨e1, by rw [mOr_ap, q1]; rfl, q2⟩
  | false =>
    obtain ⟨e2, p1, p2⟩ := h' _ e1 q2 v _ hv
    exact ⟨e2, by rw [mOr_ap, q1]; exact p1, p2⟩
theorem xsi_rng1 {m : M (List Opd)} {t : Src → Option ((Int × Unit) × Src)} (h : XSA si false m L t (fC eI f0)) : XSI eI (mRng rg1 m) L (thn2 t fun p => lif (rng1T p.1)) := fun s e he v s' hv => by
  obtain ⟨p, s1, hp, hv⟩ := thn2_some hv
  obtain ⟨hv, rfl⟩ := lif_some hv
  obtain ⟨os, e1, q1, q2, q3, q4, _⟩ := h s e he p _ hp
  refine ⟨e1, ?_, q2⟩
  rw [mRng_ap, q1]; simp only [Option.bind_some]
  rw [allVal_of (q3 _ e1 q2) q4]; simp only [Option.bind_some]
  unfold rng1T at hv
  split at hv
  · rename_i hr; cases hv
    show (if rng62 p.1 = true then some (rngL 0 p.1.toNat) else none).map _ = _
    rw [if_pos hr, rngL_T]
    unfold rngT
    simp
  · cases hv
/-! comprehensions that drw -/
/-! several at once -/
theorem xsm_nil : XSM mF0 L (fun s => some ((), s)) f0 := fun s e he v s' hv => by cases hv; exact ⟨e, rfl, he⟩
theorem xsm_cons {m : M PyData} {r : M (List PyData)} {t : Src → Option (α × Src)} {t' : Src → Option (β × Src)} {fs : β → List PyData} (h : XS ea m L t) (hr : XSM r L t' fs) : XSM (mF m r) L (thn2 t fun a => thn2 t' fun b s => some ((a, b), s)) (fC ea fs) := fun s e he v s' hv => by
  obtain ⟨a, s1, h1, hv⟩ := thn2_some hv
  obtain ⟨b, s2, h2, hv⟩ := thn2_some hv
  cases hv
  obtain ⟨e1, q1, q2⟩ := h s e he a s1 h1
  obtain ⟨e2, p1, p2⟩ := hr s1 e1 q2 b _ h2
  exact ⟨e2, by rw [mF_ap, q1]; simp only [Option.bind_some]; rw [p1]; rfl, p2⟩
end
/-! ### statements that drw -/
def drw {α β : Type} (x : Option (α × Src)) (f : α → Src → Option β) : Option β := x.bind fun p => f p.1 p.2
@[simp] theorem drw_some {α β : Type} {p : α × Src} {f : α → Src → Option β} : drw (some p) f = f p.1 p.2 := rfl
section
variable {α β ρ σ τ : Type} {ea : α → PyData} {eb : β → PyData} {L : Src → SL} {R : τ → Out → Prop} {s : Src}
theorem xs_asg {m : M PyData} {g : St1} {r : B} {t : Src → Option (α × Src)} {T : α → Src → Option τ} {L1 : α → Src → SL} (h : XS ea m L t) (hg : ∀ v s', XG g (ea v) (L s') (L1 v s')) (hr : ∀ v s', XB r (L1 v s') (T v s') R) : XB (sSeq (sAsg m g) r) (L s) (drw (t s) T) R := fun e he v hv => by
  obtain ⟨⟨x, s1⟩, hx, hv⟩ := Option.bind_eq_some_iff.mp hv
  obtain ⟨e1, q1, q2⟩ := h s e he x s1 hx
  obtain ⟨e2, p1, p2⟩ := hg x s1 e1 q2
  obtain ⟨o, r1, r2⟩ := hr x s1 e2 p2 v hv
  refine ⟨o, ?_, r2⟩
  rw [sSeq_ap, sAsg_ap, q1]; simp only [Option.bind_some]
  rw [p1]; exact r1
theorem xs_par {is : List Nat} {m : M (List PyData)} {r : B} {t : Src → Option (α × Src)} {T : α → Src → Option τ} {fs : α → List PyData} (h : XSM m L t fs) (hr : ∀ v s', XB r (stoL is (fs v) (L s')) (T v s') R) : XB (sSeq (sParK is m) r) (L s) (drw (t s) T) R := fun e he v hv => by
  obtain ⟨⟨x, s1⟩, hx, hv⟩ := Option.bind_eq_some_iff.mp hv
  obtain ⟨e1, q1, q2⟩ := h s e he x s1 hx
  obtain ⟨o, r1, r2⟩ := hr x s1 _ (Mt.sto q2) v hv
  refine ⟨o, ?_, r2⟩
  rw [sSeq_ap, sParK_ap, q1]; exact r1
theorem xs_app {i : Nat} {m : M PyData} {r : B} {l : List α} {t : Src → Option (α × Src)} {T : List α → Src → Option τ} (hi : ∀ s, (L s)[i]? = some (some (some (eL ea l)))) (h : XS ea m L t) (hr : ∀ v s', XB r ((L s').set i (some (some (eL ea v)))) (T v s') R) :
    XB (sSeq (sExpr (mApp i m)) r) (L s) (drw (t s) fun x s' => (appT l x).bind fun v => T v s') R := fun e he v hv => by
  obtain ⟨⟨x, s1⟩, hx, hv⟩ := Option.bind_eq_some_iff.mp hv
  obtain ⟨y, hy, hv⟩ := Option.bind_eq_some_iff.mp hv
  unfold appT at hy
  split at hy
  · rename_i hl
    cases hy
    obtain ⟨e1, q1, q2⟩ := h s e he x s1 hx
    obtain ⟨o, r1, r2⟩ := hr _ s1 _ (q2.set i _) v hv
    refine ⟨o, ?_, r2⟩
    have h1 := he.at_ i _ (hi s)
    have h2 := q2.at_ i _ (hi s1)
    rw [sSeq_ap, sExpr_ap, mApp_ap, lstAt_ap, h1]
    simp only [Option.join_some, Option.bind_some, asL_list]
    rw [q1]; simp only [Option.bind_some]
    rw [lstAt_ap, h2]
    simp only [Option.join_some, Option.bind_some, asL_list]
    rw [if_pos (by rw [List.length_map]; exact hl)]
    have e3 : List.map ea l ++ [ea x] = List.map ea (l ++ [x]) := by rw [List.map_append]; rfl
    rw [e3]; exact r1
  · cases hy
/-- a return of what is drawn -/
theorem xs_ret {m : M PyData} {t : Src → Option (α × Src)} {k : α → Src → τ} (hk : ∀ v s' e, Mt e (L s') → R (k v s') (.rt (ea v) e)) (h : XS ea m L t) : XB (sRet m) (L s) (drw (t s) fun v s' => some (k v s')) R := fun e he v hv => by
  obtain ⟨⟨x, s1⟩, hx, hv⟩ := Option.bind_eq_some_iff.mp hv
  cases hv
  obtain ⟨e1, q1, q2⟩ := h s e he x s1 hx
  exact ⟨_, by rw [sRet_ap, q1]; rfl, hk x s1 e1 q2⟩
/-- a return that draws nothing, the source as it is -/
theorem xb_retX {m : M PyData} {L : SL} {t : Option α} {k : α → τ} (hk : ∀ v e, Mt e L → R (k v) (.rt (ea v) e)) (h : XP ea m L t) : XB (sRet m) L (t.map k) R := fun e he v hv => by
  obtain ⟨x, hx, rfl⟩ := Option.map_eq_some_iff.mp hv
  obtain ⟨e1, q1, q2⟩ := h e he x hx
  exact ⟨_, by rw [sRet_ap, q1]; rfl, hk x e1 q2⟩
theorem rvs_ok {n : Nat} {L : SL} {v : α} {s' : Src} {e : Ev} (he : Mt e L) (hl : L.length = n) (h0 : L[0]? = some (some (some (eX s')))) : RVS n ea (v, s') (.rt (ea v) e) := ⟨e, rfl, he.len.trans hl, he.at_ 0 _ h0⟩
theorem xs_ifG {c : M Bool} {m r : B} {tc : Src → Option (Bool × Src)} {t t' : Src → Option τ} (hc : XSB c L tc) (hm : Gone m) (h : ∀ s', XB m (L s') (t s') R) (h' : ∀ s', XB r (L s') (t' s') R) : XB (sSeq (sIf c m sNx) r) (L s) (drw (tc s) fun b s' => if b = true then t s' else t' s') R := fun e he v hv => by
  obtain ⟨⟨x, s1⟩, hx, hv⟩ := Option.bind_eq_some_iff.mp hv
  obtain ⟨e1, q1, q2⟩ := hc s e he x s1 hx
  rw [sSeq_ap, sIf_ap, q1]
  cases x with
  | true =>
    obtain ⟨o, r1, r2⟩ := h s1 e1 q2 v hv
    refine ⟨o, ?_, r2⟩
    dsimp only [Option.bind_some]
    rw [if_pos rfl, r1]
    cases o with
    | nx e' => exact absurd rfl (hm e1 _ r1 e')
    | _ => rfl
  | false => exact h' s1 e1 q2 v hv
theorem xs_for {it : M (List PyData)} {g : St1} {body : B} {ti : Src → Option (List α × Src)} {f : σ → α → Option σ} {env : σ → SL} {L1 : σ → α → SL} {s0 : Src → σ} (hi : XSI ea it L ti) (w : ∀ s', LEs (env (s0 s')) (L s')) (hg : ∀ s x, XG g (ea x) (env s) (L1 s x)) (hb : ∀ s x, XB body (L1 s x) (f s x) (RN env)) :
    XB (sFor it g body) (L s) (drw (ti s) fun xs s' => forP f xs (s0 s')) (RN env) := fun e he v hv => by
  obtain ⟨⟨xs, s1⟩, hx, hv⟩ := Option.bind_eq_some_iff.mp hv
  obtain ⟨e1, q1, q2⟩ := hi s e he xs s1 hx
  obtain ⟨e2, p1, p2⟩ := loopB_P hg hb (q2.weak (w s1)) hv
  exact ⟨_, by rw [sFor_ap, q1]; exact p1, e2, rfl, p2⟩
/-- a def that draws, by its body -/
theorem fts_of {rk : Kd} {pk : List Kd} {n k : Nat} {mb : B} {fs : α → List PyData} {f : α → Src → Option (β × Src)} (hp : (pk.all fun k => decide (k = .frz) || decide (k = .pt)) = true) (hl : ∀ p, (fs p).length = k) (hpk : pk.length = k) (hkn : k + 1 ≤ n)
    (h : ∀ s p, XB mb (some (some (eX s)) :: (fs p).map (fun d => some (some d)) ++ List.replicate (n - (k + 1)) (some none)) (f p s) (RVS n eb)) : FTS (mDef rk (.src :: pk) n mb) k fs eb f := fun s p v s' hv => by
  refine ⟨hl p, ?_⟩
  obtain ⟨o, q1, e1, rfl, q2, q3⟩ := h s p ((eX s :: fs p).map some ++ List.replicate (n - (eX s :: fs p).length) none) ⟨by simp [hl], fun i x hi => by
    have e1 : some (some (eX s)) :: (fs p).map (fun d => some (some d)) = (eX s :: fs p).map (fun d => some (some d)) := rfl
    rw [e1] at hi
    rw [List.getElem?_append] at hi ⊢
    rw [List.length_map] at hi ⊢
    split at hi
    · rename_i hlt
      rw [if_pos hlt]
      rw [List.getElem?_map] at hi ⊢
      obtain ⟨d, hd, hx⟩ := Option.map_eq_some_iff.mp hi
      rw [hd]; cases hx; rfl
    · rename_i hlt
      rw [if_neg hlt]
      rw [List.getElem?_replicate] at hi ⊢
      have : (eX s :: fs p).length = k + 1 := by simp [hl]
      rw [this] at hi ⊢
      split at hi
      · rename_i h2; rw [if_pos h2]; cases hi; rfl
      · cases hi⟩ (v, s') hv
  cases e1 with
  | nil => simp at q3
  | cons y e2 =>
    simp at q3
    subst q3
    obtain ⟨outs, ho⟩ := outsOf_frz (pk := pk) (ds := fs p) (e := e2) hp (by rw [hl, hpk]) (by rw [hl]; simp at q2; omega)
    refine ⟨outs, ?_⟩
    unfold mDef
    rw [q1]
    dsimp only
    unfold finB
    simp only [outsOf, ho]; rfl
/-! the drawing itself -/
def pickT (many : Int) (s : Src) : Option (Int × Src) := if many.natAbs < 1073741824 then some (pickR s many) else none
theorem pick_fts : FTS (α := Int × Unit) mmPick 1 (fC eI f0) eI fun p s => pickT p.1 s := fun s p v s' h => by
  unfold pickT at h
  dsimp only at h
  split at h
  · rename_i hm
    have h : pickR s p.1 = (v, s') := by simpa using h
    refine ⟨rfl, [.int p.1], ?_⟩
    have := pick_spec s p.1 hm
    rw [h] at this
    exact this
  · cases h
/-- a drawn member -/
def ofT {α : Type} (l : List α) (s : Src) : Option (α × Src) := drw (pickT l.length s) fun r s' => (atI l r).map fun v => (v, s')
def sourceT (ns : List Int) : Option Src := if ns.length ≤ 63 then some (srcS ns) else none
theorem source_ft : FT (α := List Int × Unit) mmSource 1 (fC (eL eI) f0) eX fun p => sourceT p.1 := fun p v h => by
  unfold sourceT at h
  dsimp only at h
  split at h
  · rename_i hl; cases h
    exact ⟨rfl, _, source_spec p.1 hl⟩
  · cases h
theorem pickT_ex (s : Src) (many : Int) (hm : many.natAbs < 1073741824) : ∃ r s', pickT many s = some (r, s') ∧ 0 ≤ r ∧ r < max 1 many := ⟨_, _, if_pos hm, pickR_lo s many, pickR_hi s many⟩
theorem of_fts {E : List α → PyData} (hE : ∀ l, E l = .list (l.map ea) ∨ E l = .tuple (l.map ea)) : FTS (α := List α × Unit) mmOf 1 (fC E f0) ea fun p s => ofT p.1 s := fun s p v s' h => by
  obtain ⟨l, _⟩ := p
  obtain ⟨⟨r, s1⟩, h1, h2⟩ := Option.bind_eq_some_iff.mp h
  obtain ⟨x, h3, h4⟩ := Option.map_eq_some_iff.mp h2
  cases h4
  refine ⟨rfl, [E l], ?_⟩
  obtain ⟨_, outs, q⟩ := pick_fts s ((l.length : Int), ()) r s1 h1
  have hm : mmPick [srcDt s, .int (l.length : Int)] = some (.int r, srcDt s1 :: outs) := q
  have hi : atI (l.map ea) r = some (ea v) := by rw [atI_map, h3]; rfl
  show mmOf [srcDt s, E l] = _
  rcases hE l with e | e <;> rw [e] <;> simp [mmOf, mDef, finB, outsOf, hm, hi]
theorem of_ftsL : FTS (α := List α × Unit) mmOf 1 (fC (eL ea) f0) ea fun p s => ofT p.1 s := of_fts fun l => .inl rfl
theorem ofT_ex (s : Src) {l : List α} (h0 : l ≠ []) (h1 : l.length < 1073741824) : ∃ v s', ofT l s = some (v, s') ∧ v ∈ l := by
  obtain ⟨r, s', h, lo, hi⟩ := pickT_ex s (l.length : Int) (by omega)
  have : 0 < l.length := List.length_pos_iff.mpr h0
  have hr : r.toNat < l.length := by omega
  refine ⟨l[r.toNat], s', ?_, List.getElem_mem hr⟩
  unfold ofT drw
  rw [h, Option.bind_some]
  dsimp only
  have h2 : atI l ((r.toNat : Nat) : Int) = some l[r.toNat] := atI_nat (List.getElem?_eq_getElem hr)
  have : ((r.toNat : Nat) : Int) = r := by omega
  rw [this] at h2
  rw [h2]
  rfl
end
/-! starred displays -/
section
variable {α : Type} {ea : α → PyData} {L : SL}
end
end DL

/-! DLP: raise (never met), powers, shifts, extend, pop, sorted, dicts. -/
namespace DL
open PySem PySem.Spec PyProof.Rows L2
section
variable {rk : Kd} {X : Cx} {ks : List Kd} {ps : List (Nat × V)} {a b c e o : Expr} {es : List Expr} {pos pos' : Pos}
def powD : PyData → PyData → Option PyData
  | .int i, .int j => if 0 ≤ j ∧ j ≤ 1000000 ∧ i.natAbs < 2 ^ 64 then some (.int (i ^ j.toNat)) else none
  | _, _ => none
theorem o_pow : Op2 X (binaryOp .Pow) powD := o_ints op_pow fun d e r h => by
  unfold powD at h
  split at h
  · split at h
    · rename_i hc; cases h; exact ⟨_, _, rfl, rfl, hc, fun _ _ _ => rep_int⟩
    · cases h
  · cases h
/-! ### lists of one's own -/
/-! ### chains of three -/
/-! ### sorted -/
def alikeB (ds : List PyData) : Bool := ds.all fun d => ds.all fun d' => PySem.W.alike d d'
def sortB (ds : List PyData) : Bool := (ds.all fun d => match d with
    | .tuple (_ :: _) => true
    | _ => false) || (ds.all fun d => match d with
    | .none => false
    | .tuple _ => false
    | _ => true)
def sortL (ds : List PyData) : List PyData := ds.mergeSort (PySem.W.dataLe false id)
def sortedD : List PyData → Option PyData
  | [.list ds] => if alikeB ds && sortB ds && layA ds && decide (ds.length ≤ 1000000) && decide (PyData.depthAll ds ≤ 60) then some (.list (sortL ds)) else none
  | _ => none
theorem alikeB_ok {ds : List PyData} (h : alikeB ds = true) : PySem.W.AllAlike ds := by
  intro d hd d' hd'
  unfold alikeB at h
  rw [List.all_eq_true] at h
  have := h d hd
  rw [List.all_eq_true] at this
  exact this d' hd'
theorem sortB_ok {ds : List PyData} (h : sortB ds = true) : PySem.W.Sortable ds := by
  unfold sortB at h
  rw [Bool.or_eq_true, List.all_eq_true, List.all_eq_true] at h
  refine h.imp (fun h d hd => ?_) fun h d hd => ?_
  · have := h d hd
    split at this
    · exact ⟨_, _, rfl⟩
    · cases this
  · have := h d hd
    split at this
    · cases this
    · cases this
    · rename_i n1 n2
      exact ⟨n1, fun xs => n2 xs⟩
theorem layA_get : ∀ {ds : List PyData} {d : PyData}, layA ds = true → d ∈ ds → layD d = true
  | [], d, _, h => nomatch h
  | x :: r, d, h, m => by
    unfold layA at h
    rw [Bool.and_eq_true] at h
    rcases List.mem_cons.mp m with rfl | m
    · exact h.1
    · exact layA_get h.2 m
theorem depA_get : ∀ {ds : List PyData} {d : PyData} {n : Nat}, PyData.depthAll ds ≤ n → d ∈ ds → d.depth ≤ n
  | [], d, _, _, h => nomatch h
  | x :: r, d, n, h, m => by
    simp only [PyData.depthAll] at h
    rcases List.mem_cons.mp m with rfl | m
    · omega
    · exact depA_get (by omega) m
/-- values and data, side by side -/
theorem each_zip {K : PySem.W.Frag} {H : Hp} {O : Addr → Prop} : ∀ {ds : List PyData} {xs : List V} {us : List Value}, RepA K H O ds xs → Vals xs us → PySem.W.EachIs (fun u (p : V × PyData) => RelV p.1 u ∧ Rep K H O p.2 p.1) us (xs.zip ds)
  | [], xs, us, h, r => by
    simp only [RepA] at h
    subst h
    cases r
    exact .nil
  | d :: ds, xs, us, h, r => by
    simp only [RepA] at h
    obtain ⟨x, t, rfl, h1, h2⟩ := h
    cases r with
    | cons r1 r2 => exact .cons ⟨r1, h1⟩ (each_zip h2 r2)
theorem each_vals {R : Value → V × PyData → Prop} (hR : ∀ u p, R u p → RelV p.1 u) : ∀ {us : List Value} {ps : List (V × PyData)}, PySem.W.EachIs R us ps → Vals (ps.map (·.1)) us
  | _, _, .nil => .nil
  | _, _, .cons h t => .cons (hR _ _ h) (each_vals hR t)
theorem each_rep {K : PySem.W.Frag} {H : Hp} {O : Addr → Prop} {R : Value → V × PyData → Prop} (hR : ∀ u p, R u p → Rep K H O p.2 p.1) : ∀ {us : List Value} {ps : List (V × PyData)}, PySem.W.EachIs R us ps → RepA K H O (ps.map (·.2)) (ps.map (·.1))
  | _, _, .nil => .nil
  | _, _, .cons h t => .cons (hR _ _ h) (each_rep hR t)
theorem zip_snd : ∀ {xs : List V} {ds : List PyData}, xs.length = ds.length → (xs.zip ds).map (·.2) = ds
  | [], [], _ => rfl
  | x :: xs, d :: ds, h => by
    rw [List.zip_cons_cons, List.map_cons, zip_snd (by simpa using h)]
  | [], _ :: _, h => by simp at h
  | _ :: _, [], h => by simp at h
end
end DL

/-! DLQ: calls of defs that change one of their arguments, at any place. -/
namespace DL
open PySem PySem.Spec PyProof.Rows L2
section
variable {rk : Kd} {X : Cx} {ks : List Kd} {ps : List (Nat × V)} {a b c e o : Expr} {es : List Expr} {pos pos' : Pos}
theorem HoldsA.get {K : PySem.W.Frag} {G : Addr → Prop} {F : List (List Addr)} {σ : L2.St} {H : Hp} : ∀ {os : List Opd} {vs : List V} {j : Nat} {o : Opd}, HoldsA K ks G F σ H os vs → os[j]? = some o → ∃ v, vs[j]? = some v ∧ HoldsO K ks G F σ H o v
  | [], _, _, _, _, e2 => by simp at e2
  | o :: r, vs, j, o', h, e2 => by
    obtain ⟨x, t, rfl, h1, h2⟩ := h
    cases j with
    | zero => simp at e2; subst e2; exact ⟨x, rfl, h1⟩
    | succ j => obtain ⟨v, q1, q2⟩ := HoldsA.get (j := j) h2 (by simpa using e2); exact ⟨v, by simpa using q1, q2⟩
/-! ### range(i, j, -1) -/
end
end DL

/-! DLR: tuples turned about: t[::-1], t[k::-1]. -/
namespace HT
open PySem PySem.Spec PyProof.Rows L2
section
variable {prog : Program} {w : World} {A : Around} {E : Value → Shared → Prop} {s : Shared}
def rIx (n : Nat) : Option Int → Nat
  | none => n
  | some v => if v < 0 then (v + (n : Int) + 1).toNat else min (v.toNat + 1) n
theorem rIx_le (n : Nat) (o : Option Int) : rIx n o ≤ n := by
  unfold rIx
  cases o with
  | none => exact Nat.le_refl _
  | some v => dsimp only; split <;> omega
theorem adjust_rev (lo : Option Int) (n : Nat) : Builtin.Slice.sliceAdjust lo none (-1) (n : Int) = (((rIx n lo : Nat) : Int) - 1, -1) := by
  unfold Builtin.Slice.sliceAdjust rIx
  have h1 : ((-1 : Int) < 0) := by omega
  simp only [h1, if_true]
  cases lo with
  | none => rfl
  | some v =>
    refine Prod.ext ?_ rfl
    dsimp only
    split <;> omega
theorem places_rev (k : Nat) : Builtin.Slice.slicePlaces ((k : Int) - 1) (-1) (-1) = k := by
  unfold Builtin.Slice.slicePlaces
  have h1 : ¬ (-1 : Int) > 0 := by omega
  simp only [h1, if_false, Int.neg_neg, Int.ediv_one]
  split <;> omega
theorem sliceApplied_rev {sl : Addr} {vl : Value} {lo : Option Int} {t : Tok} {n : Nat} {Q : Int × Int × Nat → Shared → Prop} (hs : s.heap.IsSliceOf sl vl .none (.int (-1) t)) (pl : IsPart vl lo)
    (h : Q (((rIx n lo : Nat) : Int) - 1, -1, rIx n lo) s) : wpAny (model prog w) A (Builtin.Slice.sliceApplied (.ref sl) (pure (n : Int))) Q E s := by
  obtain ⟨os, hos, hcs, hds⟩ := id hs
  unfold Builtin.Slice.sliceApplied Builtin.Slice.sliceFields
  refine wpAny_bind (wpAny_bind (wpAny_field hos hds (x := vl) rfl (wpAny_bind (wpAny_field hos hds (x := .none) rfl (wpAny_bind (wpAny_field hos hds (x := .int (-1) t) rfl (wpAny_pure ?_)))))))
  refine wpAny_bind (slicePart_ (.int (-1) t) ?_)
  show wpAny _ _ (if ((-1 : Int) == 0) = true then _ else _) _ _ s
  rw [if_neg (by decide)]
  refine wpAny_bind (slicePart_ pl (wpAny_bind (slicePart_ .none (wpAny_bind (wpAny_pure ?_)))))
  show wpAny _ _ (match Builtin.Slice.sliceAdjust lo none (-1) (n : Int) with | (lo, hi) => pure (lo, (-1 : Int), Builtin.Slice.slicePlaces lo hi (-1))) _ _ s
  rw [adjust_rev lo n]
  show wpAny _ _ (pure (((rIx n lo : Nat) : Int) - 1, (-1 : Int), Builtin.Slice.slicePlaces (((rIx n lo : Nat) : Int) - 1) (-1) (-1))) _ _ s
  rw [places_rev]
  exact wpAny_pure h
theorem fm_map {α β : Type} {f : α → Option β} {g : α → β} : ∀ {l : List α}, (∀ m ∈ l, f m = some (g m)) → l.filterMap f = l.map g
  | [], _ => rfl
  | x :: r, h => by rw [List.filterMap_cons_some (h x List.mem_cons_self), List.map_cons, fm_map fun m hm => h m (List.mem_cons_of_mem _ hm)]
theorem pick_rev (xs : Array Value) (k : Nat) (hk : k ≤ xs.size) : ((List.range k).filterMap fun (m : Nat) => xs[(((k : Int) - 1) + (m : Int) * (-1)).toNat]?).toArray = ((xs.toList.take k).reverse).toArray := by
  congr 1
  refine List.ext_getElem? fun i => ?_
  have e : ((List.range k).filterMap fun (m : Nat) => xs[(((k : Int) - 1) + (m : Int) * (-1)).toNat]?) = (List.range k).map fun m => xs.toList.getD (k - 1 - m) .none := by
    refine fm_map fun m hm => ?_
    have hm := List.mem_range.mp hm
    have : (((k : Int) - 1) + (m : Int) * (-1)).toNat = k - 1 - m := by omega
    rw [this]
    have hlt : k - 1 - m < xs.size := by omega
    rw [Array.getElem?_eq_getElem hlt]
    congr 1
    rw [List.getD_eq_getElem?_getD, List.getElem?_eq_getElem (by simpa using hlt)]
    simp
  rw [e, List.getElem?_map]
  by_cases hi : i < k
  · rw [List.getElem?_range hi, List.getElem?_reverse (by simp; omega), List.length_take, List.getElem?_take]
    have h1 : min k xs.toList.length - 1 - i < k := by omega
    rw [if_pos h1, Option.map_some, List.getD_eq_getElem?_getD]
    have h2 : min k xs.toList.length - 1 - i = k - 1 - i := by simp; omega
    rw [h2, List.getElem?_eq_getElem (by simp; omega)]
    rfl
  · rw [List.getElem?_eq_none (by simp; omega), List.getElem?_eq_none (by simp; omega)]
    rfl
theorem getItem_tuple_rev {t sl : Addr} {items : Array Value} {vl : Value} {lo : Option Int} {tk : Tok} {Q : Value → Shared → Prop} (ht : IsTup s.heap t items) (hs : s.heap.IsSliceOf sl vl .none (.int (-1) tk)) (pl : IsPart vl lo)
    (h : Q (.ref s.heap.objs.size) { s with heap := s.heap.push { cls := .type "tuple", data := .seq ((items.toList.take (rIx items.size lo)).reverse).toArray } })
    (hsz : items.size ≤ sizeLine) : wpAny (model prog w) A (getItem (.ref t) (.ref sl)) Q E s := by
  have htake : sizeOk (.seq ((items.toList.take (rIx items.size lo)).reverse).toArray) := by
    show ((items.toList.take (rIx items.size lo)).reverse).toArray.size ≤ sizeLine
    rw [List.size_toArray, List.length_reverse, List.length_take, Array.length_toList]
    omega
  obtain ⟨os, hos, hcs, hds⟩ := id hs
  have hTs : s.TypeIs (.ref sl) "slice" := ⟨os, hos, hcs⟩
  unfold getItem
  try with_reducible refine wpAny_holding ?_
  first | refine wpAny_bind (wpAny_pure ?_) | skip
  refine wpAny_bind (wpAny_sequenceKey ht.typeIs (by decide) ?_)
  refine wpAny_bind (wpAny_callSpecial?_slot (name := Str.ofString "__getitem__") ht.typeIs PyProof.Rows.slot_tuple_getitem
    (wpAny_call_entry PyProof.Rows.slot_tuple_getitem ht.typeIs entry_tuple_getitem ?_ (args_tuple_getitem _ _)))
  show wpAny _ _ (Builtin.Tuple.tupleItemsOf (.ref t) >>= _) _ _ s
  refine wpAny_bind (tupleItemsOf_ ht ?_)
  refine wpAny_bind (wpAny_typeOf hTs ?_)
  rw [if_pos (by decide)]
  refine wpAny_bind (sliceApplied_rev hs pl ?_)
  have hno : ¬ (((((rIx items.size lo : Nat) : Int) - 1) == 0 && (-1 : Int) == 1 && (rIx items.size lo) == items.size) = true) := by
    intro q
    rw [Bool.and_eq_true, Bool.and_eq_true] at q
    have q1 : (-1 : Int) = 1 := eq_of_beq q.1.2
    omega
  show wpAny _ _ (if ((((rIx items.size lo : Nat) : Int) - 1) == 0 && (-1 : Int) == 1 && (rIx items.size lo) == items.size) = true then _ else _) _ _ s
  rw [if_neg hno, pick_rev items _ (rIx_le _ _)]
  first
    | exact wpAny_bind (m := Builtin.Tuple.tupleExact _) (wpAny_newObj_type (wpAny_pure ⟨_, rfl, wpAny_pure h⟩) htake)
    | exact wpAny_bind (m := Builtin.Tuple.tupleExact _) (wpAny_newObj_type (wpAny_bind (wpAny_pure (wpAny_pure ⟨_, rfl, wpAny_pure h⟩))) htake)
    | exact wpAny_bind (wpAny_bind (m := Builtin.Tuple.tupleExact _) (wpAny_newObj_type (wpAny_pure (wpAny_pure ⟨_, rfl, wpAny_pure h⟩)) htake))
    | exact wpAny_bind (wpAny_bind (m := Builtin.Tuple.tupleExact _) (wpAny_newObj_type (wpAny_pure ⟨_, rfl, wpAny_pure h⟩) htake))
end
end HT
namespace DL
open PySem PySem.Spec PyProof.Rows L2
section
variable {rk : Kd} {X : Cx} {ks : List Kd} {ps : List (Nat × V)} {a b c e o : Expr} {es : List Expr} {pos pos' : Pos}
/-- t[lo::-1] of a tuple -/
def tRevT (K : PySem.W.Frag) (te : TE) (tl : L2.TO) : TE := fun σ H Q => te σ H fun x H1 => tl σ H1 fun lo H2 => ∃ a xs, x = .ref a ∧ SqT K H2 a xs ∧ ∀ p, H2 p = none → Q (.ref p) (upd H2 p (.tup ((xs.take (HT.rIx xs.length lo)).reverse)))
theorem pe_revT {e : Expr} {lo : Option Expr} {te : TE} {tl : L2.TO} {k : Nat} {p1 p2 p3 pos : Pos} (he : PE X e te) (hl : PO X lo tl) : PE X (.Subscript e (.Slice lo none (some (.UnaryOp .USub (.Constant (.int 1) k p1) p2)) p3) pos) (tRevT X.K te tl) := by
  refine ⟨fun pins s σ H Q I h => ?_⟩
  refine Subscript_ (thn (he.run pins s σ H _ I h) fun v s1 ⟨x, H1, I1, r1, q1⟩ => ?_)
  have hst : PO X (some (.UnaryOp .USub (.Constant (.int 1) k p1) p2)) (tPart (tUn (rU fun i => .int (-i)) (tC (.int 1)))) := po_some (pe_un un_neg pe_int)
  refine wpAny_Slice (thn (hl.run pins s1 σ H1 _ I1 q1) fun vl s2 ⟨l, H2, I2, pl, q2⟩ => ?_)
  refine thn (po_none.run pins s2 σ H2 (fun o H3 => o = none ∧ H3 = H2) I2 ⟨rfl, rfl⟩) fun vu s3 ⟨u, H3, I3, pu, eu, e3⟩ => ?_
  subst eu e3
  refine thn (hst.run pins s3 σ H3 (fun o H4 => o = some (-1) ∧ H4 = H3) I3 ⟨1, rfl, -1, rfl, rfl, rfl⟩) fun vs s4 ⟨o, H4, I4, ps, eo, e4⟩ => ?_
  subst eo e4
  obtain ⟨a, xs, ex, hx, q⟩ := q2
  subst ex
  cases r1
  cases pu
  cases ps with
  | int _ tk =>
    have I5 : L2.Inv X pins σ H4 { s4 with heap := s4.heap.push { cls := .type "slice", data := .fields #[vl, .none, .int (-1) tk] } } := I4.kept (t' := s4.toks) fun b ob q => Heap.get?_push_of_some _ q
    obtain ⟨its, r, ht, hz⟩ := I5.tuple hx
    have hlen := r.length
    have hsz : its.toArray.size = xs.length := by rw [List.size_toArray]; exact hlen.symm
    show wpAny (model X.prog X.w) X.A (subscriptTail e (.Slice lo none (some (.UnaryOp .USub (.Constant (.int 1) k p1) p2)) p3) (.ref a) (.ref s4.heap.objs.size)) (EP X pins σ Q) X.xe { s4 with heap := s4.heap.push { cls := .type "slice", data := .fields #[vl, .none, .int (-1) tk] } }
    refine tail_any (ops := [.ref a, .ref s4.heap.objs.size]) ht.typeIs (PyProof.Rows.slot_tuple_getitem.lookup) ?_ (by with_unfolding_all rfl)
    refine HT.getItem_tuple_rev ht (Heap.IsSliceOf.new _ vl .none (.int (-1) tk)) pl ?_ (by rw [hsz]; exact hz)
    rw [hsz]
    refine ⟨.ref _, _, I5.laid (t' := s4.toks) (o := .tup ((xs.take (HT.rIx xs.length l)).reverse)) (fun b ob q => Heap.get?_push_of_some _ q) (Nat.le_refl _) ?_, rfl, q _ (I5.hok.fresh (Nat.le_refl _))⟩
    refine ⟨by rw [List.length_reverse, List.length_take]; omega, _, (r.take _).reverse, IsTup.new _ _⟩
def revTD (lo : Option Int) : PyData → Option PyData
  | .tuple ds => some (.tuple ((ds.take (HT.rIx ds.length lo)).reverse))
  | _ => none
def mRevT (m : M Opd) (l : M (Option Int)) : M PyData := bnd m fun o => bnd l fun lo => rs1 (revTD lo) o
theorem ed_revT {lo : Option Expr} {ma : M Opd} {l : M (Option Int)} {k : Nat} {p1 p2 p3 : Pos} (ha : RD X ks ps a ma) (hl : PartD X ks ps lo l) : ED X ks ps (.Subscript a (.Slice lo none (some (.UnaryOp .USub (.Constant (.int 1) k p1) p2)) p3) pos) (mRevT ma l) :=
  PE.imp (pe_revT ha hl) fun σ H Q q => by
    obtain ⟨G, F, env, d, env', I, hm, q⟩ := q
    obtain ⟨ox, e1, h1, h2⟩ := bnd_some hm
    obtain ⟨l1, e2, h3, h4⟩ := bnd_some h2
    obtain ⟨rfl, dx, g1, g3, gi⟩ := rs1_some h4
    refine ⟨G, F, env, ox, e1, I, h1, fun v F1 H1 S1 I1 r1 => ⟨G, F1, e1, l1, _, I1, h3, fun F2 H2 S2 I2 => ?_⟩⟩
    have r2 := HoldsO.rep I2 (r1.stp S2) g1
    unfold revTD at g3
    split at g3
    · cases g3
      rename_i ds
      simp only [Rep] at r2
      obtain ⟨a, xs, rfl, t1, a1⟩ := r2
      refine ⟨a, xs, rfl, t1.sq, fun p hp => ?_⟩
      have sm := same_upd (o := .tup ((xs.take (HT.rIx xs.length l1)).reverse)) hp
      refine q _ F2 _ ((S1.trans S2).trans (.same sm)) (I2.same sm) (ifown gi ?_)
      simp only [Rep]
      refine ⟨p, _, rfl, .inl upd_same, ?_⟩
      rw [a1.length]
      exact RepA.kp (Same.kp sm) (RepA.reverse (a1.take _))
    · cases g3
end
end DL

namespace DL
open PySem PySem.Spec PyProof.Rows L2
/-! ### defs that change a list that is passed -/
section
variable {α β γ τ ρ : Type} {ea : α → PyData} {eb : β → PyData} {ec : γ → PyData} {el : β → PyData} {L : SL} {R : τ → Out → Prop} {o1 o2 own : Bool}
/-! ### powers, shifts, chains of three -/
def powT (a b : Int) : Option Int := if 0 ≤ b ∧ b ≤ 1000000 ∧ a.natAbs < 2 ^ 64 then some (a ^ b.toNat) else none
theorem q_pow : Op2T powD eI eI eI powT := fun a b v h => by
  unfold powT at h
  split at h
  · rename_i hm; cases h; show (if 0 ≤ b ∧ b ≤ 1000000 ∧ a.natAbs < 2 ^ 64 then some (PyData.int (a ^ b.toNat)) else none) = _; rw [if_pos hm]
  · cases h
/-! extend, pop, sorted -/
structure SrtE {α : Type} (ea : α → PyData) (le : α → α → Bool) (n : Nat) : Prop where
  alike : ∀ a b, PySem.W.alike (ea a) (ea b) = true
  kind : (∀ a, ∃ x r, ea a = .tuple (x :: r)) ∨ ∀ a, ea a ≠ .none ∧ ∀ xs, ea a ≠ .tuple xs
  lay : ∀ a, layD (ea a) = true
  dep : ∀ a, (ea a).depth ≤ n
  le : ∀ a b, PySem.W.dataLe false id (ea a) (ea b) = le a b
theorem srtI : SrtE eI (fun a b => decide (a ≤ b)) 0 := ⟨fun a b => rfl, .inr fun a => ⟨fun h => (nomatch h), fun xs h => (nomatch h)⟩, fun a => rfl, fun a => by simp, fun a b => by
  have := congrFun (congrFun (PySem.W.dataLe_int (fun x : Int => x)) a) b
  exact this⟩
theorem srtII : SrtE (eTu (fC eI (f1 eI))) (fun p q : Int × Int => decide (p.1 < q.1 ∨ (p.1 = q.1 ∧ p.2 ≤ q.2))) 1 := ⟨fun a b => rfl, .inl fun a => ⟨_, _, rfl⟩, fun a => rfl, fun a => by simp, fun a b => by
  have := congrFun (congrFun (PySem.W.dataLe_ii (fun x : Int × Int => x.1) (fun x : Int × Int => x.2)) a) b
  exact this⟩
def sortT {α : Type} (le : α → α → Bool) (l : List α) : Option (List α) := if l.length ≤ 1000000 then some (l.mergeSort le) else none
theorem layA_all2 {ds : List PyData} (h : ∀ d ∈ ds, layD d = true) : layA ds = true := by
  induction ds with
  | nil => rfl
  | cons d r ih => unfold layA; rw [h d List.mem_cons_self, ih fun x hx => h x (List.mem_cons_of_mem _ hx)]; rfl
theorem q_sorted {le : α → α → Bool} {n : Nat} (S : SrtE ea le n) (hn : n ≤ 60 := by decide) : ∀ (p : List α × Unit) v, (fun p : List α × Unit => sortT le p.1) p = some v → sortedD (fC (eL ea) f0 p) = some (eL ea v) := fun p v h => by
  have h : sortT le p.1 = some v := h
  unfold sortT at h
  split at h
  · rename_i hl
    cases h
    show sortedD [.list (p.1.map ea)] = _
    unfold sortedD
    have mem : ∀ d ∈ p.1.map ea, ∃ a, d = ea a := fun d hd => by obtain ⟨a, _, rfl⟩ := List.mem_map.mp hd; exact ⟨a, rfl⟩
    have a1 : alikeB (p.1.map ea) = true := by
      unfold alikeB
      rw [List.all_eq_true]
      intro d hd
      rw [List.all_eq_true]
      intro d' hd'
      obtain ⟨a, rfl⟩ := mem d hd
      obtain ⟨b, rfl⟩ := mem d' hd'
      exact S.alike a b
    have a2 : sortB (p.1.map ea) = true := by
      unfold sortB
      rw [Bool.or_eq_true, List.all_eq_true, List.all_eq_true]
      refine S.kind.imp (fun h d hd => ?_) fun h d hd => ?_
      · obtain ⟨a, rfl⟩ := mem d hd
        obtain ⟨x, r, e⟩ := h a
        rw [e]
      · obtain ⟨a, rfl⟩ := mem d hd
        obtain ⟨h1, h2⟩ := h a
        cases hc : ea a with
        | none => exact absurd hc h1
        | tuple xs => exact absurd hc (h2 xs)
        | _ => rfl
    have a3 : layA (p.1.map ea) = true := layA_all2 fun d hd => by obtain ⟨a, rfl⟩ := mem d hd; exact S.lay a
    have a4 : PyData.depthAll (p.1.map ea) ≤ 60 := depA_all fun d hd => by obtain ⟨a, rfl⟩ := mem d hd; exact Nat.le_trans (S.dep a) hn
    dsimp only
    rw [if_pos (by rw [a1, a2, a3, decide_eq_true (by rw [List.length_map]; exact hl), decide_eq_true a4]; rfl)]
    unfold sortL
    rw [← List.map_mergeSort (r := le) (s := PySem.W.dataLe false id) (f := ea) fun a _ b _ => (S.le a b).symm]
  · cases h
/-! tuples turned about -/
def revT {α : Type} (xs : List α) (lo : Option Int) : List α := (xs.take (HT.rIx xs.length lo)).reverse
theorem x_revT {m : M Opd} {l : M (Option Int)} {t : Option (List α)} {tl : Option (Option Int)} (hm : XO (eT ea) o1 m L t) (hl : XQ l L tl) (hi : OkI o1 (eT ea)) : XP (eT ea) (mRevT m l) L (t.bind fun xs => tl.bind fun lo => some (revT xs lo)) := fun e he v hv => by
  obtain ⟨xs, h1, hv⟩ := Option.bind_eq_some_iff.mp hv
  obtain ⟨lo, h2, hv⟩ := Option.bind_eq_some_iff.mp hv
  cases hv
  obtain ⟨x, e1, q1, q2, q3, rfl⟩ := hm e he xs h1
  obtain ⟨e2, p1, p2⟩ := hl e1 q2 lo h2
  refine ⟨e2, ?_, p2⟩
  unfold mRevT
  simp only [bnd_ap]
  rw [q1]; simp only [Option.bind_some]
  rw [p1]; simp only [Option.bind_some]
  rw [rs1_ap, q3 e2 p2]; simp only [Option.bind_some]
  have : revTD lo (eT ea xs) = some (eT ea (revT xs lo)) := by
    show some (PyData.tuple (((xs.map ea).take (HT.rIx (xs.map ea).length lo)).reverse)) = _
    rw [List.length_map, ← List.map_take, ← List.map_reverse]
    rfl
  rw [this]; simp only [Option.bind_some]
  exact keepI_ok hi
theorem revT_all {xs : List α} : revT xs none = xs.reverse := by
  unfold revT
  show (xs.take xs.length).reverse = _
  rw [List.take_length]
end
end DL

/-! TYS: plain facts about the typed words -/
namespace DL
open PySem PySem.Spec PyProof.Rows L2
section
variable {α β γ σ ρ : Type}
@[simp] theorem thn2_ap {a : Src → Option (α × Src)} {f : α → Src → Option (β × Src)} {s : Src} : thn2 a f s = (a s).bind fun p => f p.1 p.2 := rfl
@[simp] theorem lif_ap {t : Option α} {s : Src} : lif t s = t.map fun v => (v, s) := rfl
theorem atN {l : List α} {k : Nat} : atI l (k : Int) = l[k]? := by
  by_cases h : k < l.length
  · rw [List.getElem?_eq_getElem h]; exact atI_nat (List.getElem?_eq_getElem h)
  · rw [List.getElem?_eq_none (by omega)]
    cases q : atI l (k : Int) with
    | none => rfl
    | some v =>
      obtain ⟨j, _, h2, h3, h4, h5⟩ := atI_get q
      exfalso
      omega
theorem at0 {l : List α} : atI l 0 = l[0]? := atN (k := 0)
theorem cutN_to {l : List α} {k : Nat} : cutT l none (some (k : Int)) = l.take k := by
  unfold cutT
  have h : HT.sIx l.length l.length (some (k : Int)) = min k l.length := HT.sIx_nat _ _ _
  rw [h]
  show ((l.drop 0).take (min k l.length - 0)) = _
  rw [List.drop_zero, Nat.sub_zero]
  by_cases hk : k ≤ l.length
  · rw [Nat.min_eq_left hk]
  · rw [Nat.min_eq_right (by omega), List.take_length, List.take_of_length_le (by omega)]
theorem cutN_from {l : List α} {k : Nat} : cutT l (some (k : Int)) none = l.drop k := by
  unfold cutT
  have h : HT.sIx l.length 0 (some (k : Int)) = min k l.length := HT.sIx_nat _ _ _
  rw [h]
  show (l.drop (min k l.length)).take (l.length - min k l.length) = _
  rw [List.take_of_length_le (by rw [List.length_drop]; omega)]
  by_cases hk : k ≤ l.length
  · rw [Nat.min_eq_left hk]
  · rw [Nat.min_eq_right (by omega), List.drop_length, List.drop_eq_nil_of_le (by omega)]
theorem catT_ok {a b : List α} (h : a.length + b.length ≤ 1000000) : catT a b = some (a ++ b) := by
  unfold catT; rw [if_pos (by rw [sizeLine_eq]; omega)]
theorem rng1_ok {n : Nat} (h : n ≤ 1000000) : rng1T (n : Int) = some ((List.range n).map fun k : Nat => (k : Int)) := by
  unfold rng1T
  rw [if_pos (by unfold rng62; simp only [Bool.and_eq_true, decide_eq_true_eq]; constructor <;> omega)]
  unfold rngT
  simp
theorem rng2_of {i j : Int} {n : Nat} (h : n ≤ 1000000) (e : (j - i).toNat = n) (hi : i.natAbs ≤ 1000000) (hj : j.natAbs ≤ 1000000) : rng2T i j = some ((List.range n).map fun k : Nat => i + (k : Int)) := by
  unfold rng2T
  rw [if_pos (by unfold rng62; simp only [Bool.and_eq_true, decide_eq_true_eq]; constructor <;> constructor <;> omega)]
  unfold rngT
  subst e
  rfl
theorem mulT_ok {a b : Int} (h : mulOk a b = true) : mulT a b = some (a * b) := if_pos h
theorem mulT_l {a b : Int} (h : a.natAbs < 2 ^ 64) : mulT a b = some (a * b) := mulT_ok (mulOk_l h)
theorem forC_mapL {f : σ → β → Option (Ctl ρ σ)} {g : α → β} : ∀ {xs : List α} {s : σ}, forC f (xs.map g) s = forC (fun s x => f s (g x)) xs s
  | [], s => rfl
  | x :: r, s => by
    rw [List.map_cons]; unfold forC
    cases f s (g x) with
    | none => rfl
    | some c => cases c <;> simp only [Option.bind_some] <;> exact forC_mapL (xs := r)
@[simp] theorem forP_nil {f : σ → α → Option σ} {s : σ} : forP f [] s = some s := rfl
theorem forP_cons {f : σ → α → Option σ} {x : α} {r : List α} {s : σ} : forP f (x :: r) s = (f s x).bind (forP f r) := rfl
/-- a loop by an invariant of its turns -/
theorem forP_inv {f : σ → α → Option σ} (P : Nat → σ → Prop) : ∀ {xs : List α} {s : σ} {k : Nat}, P k s → (∀ j x s, xs[j]? = some x → P (k + j) s → ∃ s', f s x = some s' ∧ P (k + j + 1) s') → ∃ s', forP f xs s = some s' ∧ P (k + xs.length) s'
  | [], s, k, h, _ => ⟨s, rfl, h⟩
  | x :: r, s, k, h, hs => by
    obtain ⟨s1, h1, h2⟩ := hs 0 x s rfl h
    obtain ⟨s2, h3, h4⟩ := forP_inv (xs := r) P h2 fun j y s hj hp => by
      have := hs (j + 1) y s (by simpa using hj) (by rw [show k + (j + 1) = k + 0 + 1 + j by omega]; exact hp)
      rw [show k + (j + 1) + 1 = k + 0 + 1 + j + 1 by omega] at this
      exact this
    exact ⟨s2, by rw [forP_cons, h1]; exact h3, by rw [show k + (x :: r).length = k + 0 + 1 + r.length by simp; omega]; exact h4⟩
theorem forC_keep {f : σ → α → Option (Ctl ρ σ)} (P : σ → Prop) : ∀ {xs : List α} {s : σ}, P s → (∀ x ∈ xs, ∀ s, P s → ∃ s', (f s x = some (.nx s') ∨ f s x = some (.ct s')) ∧ P s') → ∃ s', forC f xs s = some (.nx s') ∧ P s'
  | [], s, h, _ => ⟨s, rfl, h⟩
  | x :: r, s, h, hs => by
    obtain ⟨s1, h1, h2⟩ := hs x List.mem_cons_self s h
    obtain ⟨s2, h3, h4⟩ := forC_keep (xs := r) P h2 fun y hy s hp => hs y (List.mem_cons_of_mem _ hy) s hp
    refine ⟨s2, ?_, h4⟩
    rcases h1 with h1 | h1 <;> (unfold forC; rw [h1]; exact h3)
theorem forC_unit {f : Unit → α → Option (Ctl ρ Unit)} {xs : List α} (h : ∀ x ∈ xs, f () x = some (.nx ()) ∨ f () x = some (.ct ())) : forC f xs () = some (.nx ()) := by
  obtain ⟨s, h1, _⟩ := forC_keep (f := f) (fun _ => True) (xs := xs) (s := ()) trivial fun x hx s _ => ⟨(), h x hx, trivial⟩
  exact h1
@[simp] theorem ctlK_nx {τ : Type} {k : ρ → τ} {kb kc T : σ → Option τ} {s : σ} : ctlK k kb kc T (.nx s) = T s := rfl
@[simp] theorem ctlK_rt {τ : Type} {k : ρ → τ} {kb kc T : σ → Option τ} {v : ρ} : ctlK k kb kc T (.rt v) = some (k v) := rfl
theorem reprT_ok {d : PyData} (h : reprOk d = true) : reprT d = some d.shown := if_pos h
theorem reprT_b {b : Bool} : reprT (.bool b) = some (PyData.bool b).shown := reprT_ok (reprOk_of (by cases b <;> rfl) (by cases b <;> decide) (by simp))
end
end DL

/-! TYR: what is shown tells the datum (numbers, truths, none, tuples and lists of such) -/
namespace DL
open PySem PySem.Spec PyProof.Rows L2
def cd (x : Str) : List Nat := x.cps.toList
theorem cd_app (a b : Str) : cd (a ++ b) = cd a ++ cd b := by
  show (a.cps ++ b.cps).toList = _
  rw [Array.toList_append]; rfl
def decD (m : Nat) : List Nat := (Nat.toDigits 10 m).map Char.toNat
theorem decD_inj {a b : Nat} (h : decD a = decD b) : a = b := by
  have := congrArg PySem.NumText.digitsVal h
  unfold decD at this
  rwa [PySem.W.KIN.val_back, PySem.W.KIN.val_back] at this
def isDg (c : Nat) : Bool := decide (48 ≤ c) && decide (c ≤ 57)
theorem decD_dg (m : Nat) : ∀ c ∈ decD m, isDg c = true := by
  intro c hc
  obtain ⟨ch, hch, e⟩ := List.mem_map.mp hc
  have r := digit_range (Nat.isDigit_of_mem_toDigits (by decide) (by decide) hch)
  rw [← e]
  unfold isDg
  simp only [Bool.and_eq_true, decide_eq_true_eq]
  exact r
theorem decD_ne (m : Nat) : decD m ≠ [] := by
  intro h
  have := toDigits_len_ge 10 m
  rw [List.map_eq_nil_iff.mp h] at this
  exact absurd this (by decide)
theorem cd_nat (m : Nat) : cd (Str.ofString (toString ((m : Nat) : Int))) = decD m := PySem.W.KIN.signs_num m
theorem cd_neg (m : Nat) : cd (Str.ofString (toString (Int.negSucc m))) = 45 :: decD (m + 1) := by
  unfold cd
  rw [Str.ofString_eq_toList]
  show (("-" ++ Nat.repr (m + 1)).toList.map Char.toNat) = _
  rw [String.toList_append, Nat.toList_repr]
  rfl
def SStp (r : List Nat) : Prop := ∀ c l, r = c :: l → c = 44 ∨ c = 41 ∨ c = 93
theorem dig_split {a b : List Nat} {r r' : List Nat} (ha : ∀ c ∈ a, isDg c = true) (hb : ∀ c ∈ b, isDg c = true) (hr : SStp r) (hr' : SStp r') (h : a ++ r = b ++ r') : a = b ∧ r = r' := by
  have nt : ∀ {q : List Nat}, SStp q → q.takeWhile isDg = [] := fun {q} hq => by
    cases q with
    | nil => rfl
    | cons c l =>
      rw [List.takeWhile_cons]
      rcases hq c l rfl with rfl | rfl | rfl <;> rfl
  have tw : ∀ {a q : List Nat}, (∀ c ∈ a, isDg c = true) → SStp q → (a ++ q).takeWhile isDg = a := fun {a q} h1 h2 => by
    induction a with
    | nil => exact nt h2
    | cons c a ih => rw [List.cons_append, List.takeWhile_cons, h1 c List.mem_cons_self, if_pos rfl, ih fun x hx => h1 x (List.mem_cons_of_mem _ hx)]
  have e := congrArg (List.takeWhile isDg) h
  rw [tw ha hr, tw hb hr'] at e
  subst e
  exact ⟨rfl, List.append_cancel_left h⟩
mutual
def pl : PyData → Bool
  | .none | .bool _ | .int _ => true
  | .list xs | .tuple xs => plA xs
  | _ => false
def plA : List PyData → Bool
  | [] => true
  | x :: xs => pl x && plA xs
end
/-- items, then what closes them -/
def itc : List PyData → List Nat → List Nat
  | [], E => E
  | [d], E => cd d.shown ++ E
  | d :: r, E => cd d.shown ++ 44 :: 32 :: itc r E
theorem itc2 {d x : PyData} {r : List PyData} {E : List Nat} : itc (d :: x :: r) E = cd d.shown ++ 44 :: 32 :: itc (x :: r) E := rfl
def Endr (E : List Nat) : Prop := (∃ r, E = 93 :: r) ∨ (∃ r, E = 41 :: r) ∨ ∃ r, E = 44 :: 41 :: r
theorem Endr.stp {E : List Nat} (h : Endr E) : SStp E := by
  rintro c l rfl
  rcases h with ⟨r, e⟩ | ⟨r, e⟩ | ⟨r, e⟩ <;> cases e <;> simp
theorem cd_list (xs : List PyData) (r : List Nat) : cd (PyData.list xs).shown ++ r = 91 :: itc xs (93 :: r) := by
  have go : ∀ (xs : List PyData) (k : Nat) (acc : Str), xs ≠ [] → cd (textFrom (k + 1) acc (PyData.shownAll xs)) ++ 93 :: r = cd acc ++ 44 :: 32 :: itc xs (93 :: r) := by
    intro xs
    induction xs with
    | nil => intro k acc h; exact absurd rfl h
    | cons d xs ih =>
      intro k acc _
      have e : textFrom (k + 1) acc (PyData.shownAll (d :: xs)) = textFrom (k + 1 + 1) (acc ++ ((", " : String) : Str) ++ d.shown) (PyData.shownAll xs) := rfl
      have e2 : cd (((", " : String) : Str)) = [44, 32] := by decide +kernel
      rw [e]
      cases xs with
      | nil =>
        show cd (acc ++ ((", " : String) : Str) ++ d.shown) ++ 93 :: r = _
        rw [cd_app, cd_app, e2]
        simp [itc]
      | cons x xs =>
        rw [ih (k + 1) _ (by simp), cd_app, cd_app, e2, itc2]
        simp
  have e1 : cd (("[" : String) : Str) = [91] := by decide +kernel
  have e2 : cd (("]" : String) : Str) = [93] := by decide +kernel
  show cd (textFrom 0 (("[" : String) : Str) (PyData.shownAll xs) ++ (("]" : String) : Str)) ++ r = _
  rw [cd_app, e2, List.append_assoc]
  cases xs with
  | nil =>
    show cd (("[" : String) : Str) ++ _ = _
    rw [e1]; rfl
  | cons d xs =>
    have e3 : textFrom 0 (("[" : String) : Str) (PyData.shownAll (d :: xs)) = textFrom 1 ((("[" : String) : Str) ++ (("" : String) : Str) ++ d.shown) (PyData.shownAll xs) := rfl
    have e4 : cd (("" : String) : Str) = [] := by decide +kernel
    rw [e3]
    cases xs with
    | nil =>
      show cd ((("[" : String) : Str) ++ (("" : String) : Str) ++ d.shown) ++ _ = _
      rw [cd_app, cd_app, e1, e4]; rfl
    | cons x xs =>
      rw [show [93] ++ r = 93 :: r from rfl, go (x :: xs) 0 _ (by simp), cd_app, cd_app, e1, e4, itc2]
      simp
def tailT (n : Nat) (r : List Nat) : List Nat := if n = 1 then 44 :: 41 :: r else 41 :: r
theorem cd_tup (xs : List PyData) (r : List Nat) : cd (PyData.tuple xs).shown ++ r = 40 :: itc xs (tailT xs.length r) := by
  have ln : ∀ xs : List PyData, (PyData.shownAll xs).length = xs.length := fun xs => by
    induction xs with
    | nil => rfl
    | cons d xs ih => show (PyData.shownAll xs).length + 1 = _; rw [ih]; rfl
  have e2 : cd (((", " : String) : Str)) = [44, 32] := by decide +kernel
  have go : ∀ (xs : List PyData) (E : List Nat), cd (Str.join ((", " : String) : Str) (PyData.shownAll xs)) ++ E = itc xs E := by
    intro xs
    induction xs with
    | nil => intro E; rfl
    | cons d xs ih =>
      intro E
      cases xs with
      | nil => rfl
      | cons x xs =>
        have e : Str.join ((", " : String) : Str) (PyData.shownAll (d :: x :: xs)) = d.shown ++ ((", " : String) : Str) ++ Str.join ((", " : String) : Str) (PyData.shownAll (x :: xs)) := rfl
        rw [e, cd_app, cd_app, e2, itc2, ← ih]
        simp
  have e1 : cd (("(" : String) : Str) = [40] := by decide +kernel
  have e3 : cd ((",)" : String) : Str) = [44, 41] := by decide +kernel
  have e4 : cd ((")" : String) : Str) = [41] := by decide +kernel
  show cd ((("(" : String) : Str) ++ Str.join ((", " : String) : Str) (PyData.shownAll xs) ++ (((if (PyData.shownAll xs).length == 1 then ",)" else ")" : String)) : Str)) ++ r = _
  rw [cd_app, cd_app, e1, ln]
  unfold tailT
  by_cases h : xs.length = 1
  · rw [h]
    show [40] ++ cd _ ++ cd ((",)" : String) : Str) ++ r = _
    rw [e3, if_pos rfl, ← go]
    simp
  · rw [if_neg h, if_neg (by simpa using h), e4, ← go]
    simp
theorem tailT_end (n : Nat) (r : List Nat) : Endr (tailT n r) := by
  unfold tailT
  split
  · exact .inr (.inr ⟨_, rfl⟩)
  · exact .inr (.inl ⟨_, rfl⟩)
theorem tailT_inj {n : Nat} {r r' : List Nat} (h : tailT n r = tailT n r') : r = r' := by
  unfold tailT at h
  split at h <;> cases h <;> rfl
theorem stp_cons {c : Nat} {l : List Nat} (h : c = 44 ∨ c = 41 ∨ c = 93) : SStp (c :: l) := by
  intro c' l' e; cases e; exact h
/-- the first sign tells the kind -/
def fstK : PyData → List Nat
  | .none => [78]
  | .bool true => [84]
  | .bool false => [70]
  | .int i => if 0 ≤ i then [48, 49, 50, 51, 52, 53, 54, 55, 56, 57] else [45]
  | .list _ => [91]
  | .tuple _ => [40]
  | _ => []
theorem fst_n {c : Nat} : c ∈ fstK .none ↔ c = 78 := by simp [fstK]
theorem fst_t {c : Nat} : c ∈ fstK (.bool true) ↔ c = 84 := by simp [fstK]
theorem fst_f {c : Nat} : c ∈ fstK (.bool false) ↔ c = 70 := by simp [fstK]
theorem fst_l {c : Nat} {xs} : c ∈ fstK (.list xs) ↔ c = 91 := by simp [fstK]
theorem fst_tu {c : Nat} {xs} : c ∈ fstK (.tuple xs) ↔ c = 40 := by simp [fstK]
theorem fst_nat {c m : Nat} : c ∈ fstK (.int (Int.ofNat m)) ↔ 48 ≤ c ∧ c ≤ 57 := by
  show c ∈ (if 0 ≤ Int.ofNat m then [48, 49, 50, 51, 52, 53, 54, 55, 56, 57] else [45]) ↔ _
  rw [if_pos (show 0 ≤ Int.ofNat m from Int.natCast_nonneg m)]
  simp only [List.mem_cons, List.not_mem_nil, or_false]
  omega
theorem fst_neg {c m : Nat} : c ∈ fstK (.int (Int.negSucc m)) ↔ c = 45 := by
  show c ∈ (if 0 ≤ Int.negSucc m then [48, 49, 50, 51, 52, 53, 54, 55, 56, 57] else [45]) ↔ _
  rw [if_neg (by intro h; cases h)]
  simp
theorem fst_int {c : Nat} {i : Int} (h : c ∈ fstK (.int i)) : c = 45 ∨ (48 ≤ c ∧ c ≤ 57) := by
  cases i with
  | ofNat m => exact .inr (fst_nat.mp h)
  | negSucc m => exact .inl (fst_neg.mp h)
theorem cd_first {d : PyData} (h : pl d = true) (r : List Nat) : ∃ c l, cd d.shown ++ r = c :: l ∧ c ∈ fstK d := by
  cases d with
  | none => exact ⟨78, _, rfl, by simp [fstK]⟩
  | bool b =>
    cases b with
    | false => exact ⟨70, _, rfl, by simp [fstK]⟩
    | true => exact ⟨84, _, rfl, by simp [fstK]⟩
  | int i =>
    show ∃ c l, cd (Str.ofString (toString i)) ++ r = c :: l ∧ _
    cases i with
    | ofNat m =>
      have e : cd (Str.ofString (toString (Int.ofNat m))) = decD m := cd_nat m
      rw [e]
      cases q : decD m with
      | nil => exact absurd q (decD_ne m)
      | cons c l =>
        refine ⟨c, _, rfl, ?_⟩
        have := decD_dg m c (by rw [q]; simp)
        unfold isDg at this
        simp only [Bool.and_eq_true, decide_eq_true_eq] at this
        exact fst_nat.mpr this
    | negSucc m =>
      rw [cd_neg]
      exact ⟨45, _, rfl, fst_neg.mpr rfl⟩
  | list xs => exact ⟨91, _, cd_list xs r, by simp [fstK]⟩
  | tuple xs => exact ⟨40, _, cd_tup xs r, by simp [fstK]⟩
  | str _ => cases h
  | dict _ => cases h
mutual
theorem shown_u : ∀ (d d' : PyData) (r r' : List Nat), pl d = true → pl d' = true → SStp r → SStp r' → cd d.shown ++ r = cd d'.shown ++ r' → d = d' ∧ r = r' := by
  intro d d' r r' hp hp' hr hr' h
  obtain ⟨c, l, e1, e2⟩ := cd_first hp r
  obtain ⟨c', l', e1', e2'⟩ := cd_first hp' r'
  have hc : c = c' := by rw [e1, e1'] at h; exact (List.cons.inj h).1
  subst hc
  match d, d', hp, hp', h, e2, e2' with
  | .none, .none, _, _, h, _, _ => exact ⟨rfl, List.append_cancel_left h⟩
  | .bool true, .bool true, _, _, h, _, _ => exact ⟨rfl, List.append_cancel_left h⟩
  | .bool false, .bool false, _, _, h, _, _ => exact ⟨rfl, List.append_cancel_left h⟩
  | .int i, .int j, _, _, h, e2, e2' =>
    have h : cd (Str.ofString (toString i)) ++ r = cd (Str.ofString (toString j)) ++ r' := h
    cases i with
    | ofNat m => cases j with
      | ofNat k =>
        have a : cd (Str.ofString (toString (Int.ofNat m))) = decD m := cd_nat m
        have b : cd (Str.ofString (toString (Int.ofNat k))) = decD k := cd_nat k
        rw [a, b] at h
        obtain ⟨h1, h2⟩ := dig_split (decD_dg m) (decD_dg k) hr hr' h
        exact ⟨by rw [decD_inj h1], h2⟩
      | negSucc k =>
        exfalso
        have := fst_nat.mp e2
        have := fst_neg.mp e2'
        omega
    | negSucc m => cases j with
      | ofNat k =>
        exfalso
        have := fst_neg.mp e2
        have := fst_nat.mp e2'
        omega
      | negSucc k =>
        rw [cd_neg, cd_neg] at h
        obtain ⟨h1, h2⟩ := dig_split (decD_dg _) (decD_dg _) hr hr' (List.cons.inj h).2
        have := decD_inj h1
        have : m = k := by omega
        exact ⟨by rw [this], h2⟩
  | .list xs, .list ys, hp, hp', h, _, _ =>
    rw [cd_list, cd_list] at h
    obtain ⟨h1, h2⟩ := shown_uA xs ys _ _ hp hp' (.inl ⟨_, rfl⟩) (.inl ⟨_, rfl⟩) (List.cons.inj h).2
    exact ⟨by rw [h1], (List.cons.inj h2).2⟩
  | .tuple xs, .tuple ys, hp, hp', h, _, _ =>
    rw [cd_tup, cd_tup] at h
    obtain ⟨h1, h2⟩ := shown_uA xs ys _ _ hp hp' (tailT_end _ _) (tailT_end _ _) (List.cons.inj h).2
    subst h1
    exact ⟨rfl, tailT_inj h2⟩
  | .none, .bool true, _, _, _, e2, e2' | .none, .bool false, _, _, _, e2, e2' | .bool true, .none, _, _, _, e2, e2' | .bool false, .none, _, _, _, e2, e2' | .bool true, .bool false, _, _, _, e2, e2' | .bool false, .bool true, _, _, _, e2, e2' => simp only [fst_n, fst_t, fst_f, fst_l, fst_tu] at e2 e2'; omega
  | .none, .list _, _, _, _, e2, e2' | .none, .tuple _, _, _, _, e2, e2' | .list _, .none, _, _, _, e2, e2' | .tuple _, .none, _, _, _, e2, e2' | .list _, .tuple _, _, _, _, e2, e2' | .tuple _, .list _, _, _, _, e2, e2' => simp only [fst_n, fst_t, fst_f, fst_l, fst_tu] at e2 e2'; omega
  | .bool true, .list _, _, _, _, e2, e2' | .bool true, .tuple _, _, _, _, e2, e2' | .list _, .bool true, _, _, _, e2, e2' | .tuple _, .bool true, _, _, _, e2, e2' => simp only [fst_n, fst_t, fst_f, fst_l, fst_tu] at e2 e2'; omega
  | .bool false, .list _, _, _, _, e2, e2' | .bool false, .tuple _, _, _, _, e2, e2' | .list _, .bool false, _, _, _, e2, e2' | .tuple _, .bool false, _, _, _, e2, e2' => simp only [fst_n, fst_t, fst_f, fst_l, fst_tu] at e2 e2'; omega
  | .int i, .none, _, _, _, e2, e2' | .int i, .bool true, _, _, _, e2, e2' | .int i, .bool false, _, _, _, e2, e2' | .int i, .list _, _, _, _, e2, e2' | .int i, .tuple _, _, _, _, e2, e2' => have := fst_int e2; simp only [fst_n, fst_t, fst_f, fst_l, fst_tu] at e2'; omega
  | .none, .int i, _, _, _, e2, e2' | .bool true, .int i, _, _, _, e2, e2' | .bool false, .int i, _, _, _, e2, e2' | .list _, .int i, _, _, _, e2, e2' | .tuple _, .int i, _, _, _, e2, e2' => have := fst_int e2'; simp only [fst_n, fst_t, fst_f, fst_l, fst_tu] at e2; omega
theorem shown_uA : ∀ (ds ds' : List PyData) (E E' : List Nat), plA ds = true → plA ds' = true → Endr E → Endr E' → itc ds E = itc ds' E' → ds = ds' ∧ E = E' := by
  intro ds ds' E E' hp hp' hE hE' h
  have nf : ∀ {d : PyData} {E q : List Nat}, pl d = true → Endr E → E ≠ cd d.shown ++ q := fun {d E q} h1 h2 h3 => by
    obtain ⟨c, l, e1, e2⟩ := cd_first h1 q
    rw [e1] at h3
    have hc : c = 93 ∨ c = 41 ∨ c = 44 := by
      rcases h2 with ⟨r, e⟩ | ⟨r, e⟩ | ⟨r, e⟩ <;> rw [e] at h3 <;> cases h3 <;> simp
    cases d with
    | bool b => cases b <;> simp [fstK] at e2 <;> omega
    | int i => have := fst_int e2; omega
    | none => simp [fstK] at e2; omega
    | list _ => simp [fstK] at e2; omega
    | tuple _ => simp [fstK] at e2; omega
    | str _ => cases h1
    | dict _ => cases h1
  have n44 : ∀ {E q : List Nat}, Endr E → E ≠ 44 :: 32 :: q := fun {E q} h1 h2 => by
    rcases h1 with ⟨r, e⟩ | ⟨r, e⟩ | ⟨r, e⟩ <;> rw [e] at h2 <;> cases h2
  match ds, ds', hp, hp', h with
  | [], [], _, _, h => exact ⟨rfl, h⟩
  | [], [d], _, hp', h => exact absurd h (nf (Bool.and_eq_true_iff.mp hp').1 hE)
  | [], d :: x :: r, _, hp', h => exact absurd h (nf (Bool.and_eq_true_iff.mp hp').1 hE)
  | [d], [], hp, _, h => exact absurd h.symm (nf (Bool.and_eq_true_iff.mp hp).1 hE')
  | d :: x :: r, [], hp, _, h => exact absurd h.symm (nf (Bool.and_eq_true_iff.mp hp).1 hE')
  | [d], [d'], hp, hp', h =>
    obtain ⟨h1, h2⟩ := shown_u d d' E E' (Bool.and_eq_true_iff.mp hp).1 (Bool.and_eq_true_iff.mp hp').1 hE.stp hE'.stp h
    exact ⟨by rw [h1], h2⟩
  | [d], d' :: x :: r, hp, hp', h =>
    obtain ⟨h1, h2⟩ := shown_u d d' E _ (Bool.and_eq_true_iff.mp hp).1 (Bool.and_eq_true_iff.mp hp').1 hE.stp (stp_cons (.inl rfl)) h
    exact absurd h2 (n44 hE)
  | d :: x :: r, [d'], hp, hp', h =>
    obtain ⟨h1, h2⟩ := shown_u d d' _ E' (Bool.and_eq_true_iff.mp hp).1 (Bool.and_eq_true_iff.mp hp').1 (stp_cons (.inl rfl)) hE'.stp h
    exact absurd h2.symm (n44 hE')
  | d :: x :: r, d' :: y :: q, hp, hp', h =>
    obtain ⟨h1, h2⟩ := shown_u d d' _ _ (Bool.and_eq_true_iff.mp hp).1 (Bool.and_eq_true_iff.mp hp').1 (stp_cons (.inl rfl)) (stp_cons (.inl rfl)) h
    obtain ⟨h3, h4⟩ := shown_uA (x :: r) (y :: q) E E' (Bool.and_eq_true_iff.mp hp).2 (Bool.and_eq_true_iff.mp hp').2 hE hE' (List.cons.inj (List.cons.inj h2).2).2
    exact ⟨by rw [h1, h3], h4⟩
end
/-! ### data fit to be compared -/
def Ni (n : Nat) (d : PyData) : Prop := d.canLay0 = true ∧ d.depth ≤ n
theorem Ni.up {m n : Nat} {d : PyData} (h : Ni m d) (hm : m ≤ n) : Ni n d := ⟨h.1, Nat.le_trans h.2 hm⟩
theorem Ni.shaped {n : Nat} {d : PyData} (h : Ni n d) (hn : n ≤ 64 := by decide) : SeqAt.shaped d = true := by
  rw [shaped_ap, h.1]; simp; exact Nat.le_trans h.2 hn
end DL

/-! TYV: what fits a repr: sizes by bounds. -/
namespace DL
open PySem PySem.Spec PyProof.Rows L2
structure Rp (n k : Nat) (d : PyData) : Prop where
  ok : okD d = true
  sz : sz d ≤ n
  dep : d.depth ≤ k
theorem Rp.up {n k n' k' : Nat} {d : PyData} (h : Rp n k d) (hn : n ≤ n') (hk : k ≤ k') : Rp n' k' d := ⟨h.ok, Nat.le_trans h.sz hn, Nat.le_trans h.dep hk⟩
theorem Rp.repr {n k : Nat} {d : PyData} (h : Rp n k d) (hn : n ≤ 16777216 := by omega) (hk : k ≤ 60 := by omega) : reprOk d = true := reprOk_of h.ok (Nat.le_trans h.sz hn) (Nat.le_trans h.dep hk)
theorem Rp.shows {n k : Nat} {d : PyData} (h : Rp n k d) (hn : n ≤ 16777216 := by omega) (hk : k ≤ 60 := by omega) : reprT d = some d.shown := reprT_ok (h.repr hn hk)
theorem rp_all {n k : Nat} : ∀ {ds : List PyData}, (∀ d ∈ ds, Rp n k d) → okA ds = true ∧ szA ds ≤ ds.length * (n + 2) ∧ PyData.depthAll ds ≤ k
  | [], _ => ⟨by simp, by simp, by simp⟩
  | d :: ds, h => by
    obtain ⟨a, b, c⟩ := rp_all fun x hx => h x (List.mem_cons_of_mem _ hx)
    have hd := h d List.mem_cons_self
    refine ⟨by rw [okA_cons, hd.ok, a]; rfl, ?_, ?_⟩
    · have e : (ds.length + 1) * (n + 2) = ds.length * (n + 2) + (n + 2) := Nat.succ_mul _ _
      have := hd.sz
      rw [szA_cons, List.length_cons, e]; omega
    · rw [depA_cons]; exact Nat.max_le.mpr ⟨hd.dep, c⟩
theorem rp_tup {n k m N : Nat} {ds : List PyData} (h : ∀ d ∈ ds, Rp n k d) (hm : ds.length ≤ m) (hN : m * (n + 2) + 3 ≤ N) : Rp N (k + 1) (.tuple ds) := by
  obtain ⟨a, b, c⟩ := rp_all h
  refine ⟨by rw [okD_t]; exact a, ?_, by rw [dep_t]; omega⟩
  rw [sz_t]
  have := Nat.mul_le_mul_right (n + 2) hm
  omega
theorem rp_lst {n k m N : Nat} {ds : List PyData} (h : ∀ d ∈ ds, Rp n k d) (hm : ds.length ≤ m) (hN : m * (n + 2) + 3 ≤ N) : Rp N (k + 1) (.list ds) := by
  obtain ⟨a, b, c⟩ := rp_all h
  refine ⟨by rw [okD_l]; exact a, ?_, by rw [dep_l]; omega⟩
  rw [sz_l]
  have := Nat.mul_le_mul_right (n + 2) hm
  omega
theorem rp_i {i : Int} (h : i.natAbs < 2 ^ 64) : Rp 70 0 (.int i) := ⟨by rw [okD_i, decide_eq_true h], by rw [sz_i]; exact Nat.le_refl _, by simp⟩
theorem rp_tup2 {n m k l : Nat} {a b : PyData} (ha : Rp n k a) (hb : Rp m l b) : Rp (n + m + 7) (max k l + 1) (.tuple [a, b]) := ⟨by rw [okD_t, okA_cons, okA_cons, okA_nil, ha.ok, hb.ok]; rfl, by
  have := ha.sz; have := hb.sz
  rw [sz_t, szA_cons, szA_cons, szA_nil]; omega, by
  have := ha.dep; have := hb.dep
  simp; omega⟩
theorem rp_map {α : Type} {e : α → PyData} {w : List α} {n k m N : Nat} (h : ∀ l ∈ w, Rp n k (e l)) (hm : w.length ≤ m) (hN : m * (n + 2) + 3 ≤ N) : Rp N (k + 1) (.tuple (w.map e)) := rp_tup (fun d hd => by
  obtain ⟨x, hx, rfl⟩ := List.mem_map.mp hd
  exact h x hx) (by simpa using hm) hN
end DL

/-! TYG: data of any kind brought to a told type; slices of such data -/
namespace DL
open PySem PySem.Spec PyProof.Rows L2
section
variable {α β γ : Type} {ea : α → PyData} {ec : γ → PyData} {L : SL} {o1 : Bool}
theorem x_cast {m : M PyData} {t : Option PyData} {x : PyData → Option γ} (hx : ∀ d v, x d = some v → d = ec v) (h : XP eA m L t) : XP ec m L (t.bind x) := fun e he v hv => by
  obtain ⟨d, h1, h2⟩ := Option.bind_eq_some_iff.mp hv
  rw [← hx d v h2]
  exact h e he d h1
theorem x_slA {m : M Opd} {l h : M (Option Int)} {t : Option PyData} {tl th : Option (Option Int)} (hm : XO eA o1 m L t) (hl : XQ l L tl) (hh : XQ h L th) (hi : OkI o1 eA) :
    XP eA (mSl m l h) L (t.bind fun d => tl.bind fun lo => th.bind fun hi => sliceD lo hi d) := fun e he v hv => by
  obtain ⟨d, h1, hv⟩ := Option.bind_eq_some_iff.mp hv
  obtain ⟨lo, h2, hv⟩ := Option.bind_eq_some_iff.mp hv
  obtain ⟨hi', h3, hv⟩ := Option.bind_eq_some_iff.mp hv
  obtain ⟨x, e1, q1, q2, q3, rfl⟩ := hm e he d h1
  obtain ⟨e2, p1, p2⟩ := hl e1 q2 lo h2
  obtain ⟨e3, r1, r2⟩ := hh e2 p2 hi' h3
  refine ⟨e3, ?_, r2⟩
  rw [mSl_ap, q1]; simp only [Option.bind_some]
  rw [p1]; simp only [Option.bind_some]
  rw [r1]; simp only [Option.bind_some]
  rw [rs1_ap, q3 e3 r2]; simp only [Option.bind_some]
  show (sliceD lo hi' d).bind _ = _
  rw [hv]; simp only [Option.bind_some]
  exact keepI_ok hi
end
/-! ### casts -/
section
variable {α β : Type}
def Dc (x : PyData → Option α) (e : α → PyData) : Prop := (∀ d v, x d = some v → d = e v) ∧ ∀ v, x (e v) = some v
def DcF (x : List PyData → Option α) (e : α → List PyData) : Prop := (∀ d v, x d = some v → d = e v) ∧ ∀ v, x (e v) = some v
theorem dcI : Dc asI eI := ⟨asI_x, fun _ => rfl⟩
def cvLs (x : PyData → Option α) : List PyData → Option (List α)
  | [] => some []
  | d :: r => (x d).bind fun v => (cvLs x r).map fun w => v :: w
def lstOf : PyData → Option (List PyData)
  | .list ds => some ds
  | _ => none
theorem lstOf_x : ∀ {d ds}, lstOf d = some ds → d = .list ds := fun {d ds} h => by cases d <;> cases h; rfl
def cvL (x : PyData → Option α) (d : PyData) : Option (List α) := (lstOf d).bind (cvLs x)
theorem cvLs_x {x : PyData → Option α} {e : α → PyData} (h : Dc x e) : ∀ d v, cvLs x d = some v → d = v.map e
  | [], v, q => by cases q; rfl
  | d :: r, v, q => by
    unfold cvLs at q
    obtain ⟨a, h1, h2⟩ := Option.bind_eq_some_iff.mp q
    obtain ⟨w, h3, h4⟩ := Option.map_eq_some_iff.mp h2
    subst h4
    rw [h.1 d a h1, cvLs_x h r w h3]; rfl
theorem cvLs_e {x : PyData → Option α} {e : α → PyData} (h : Dc x e) : ∀ v : List α, cvLs x (v.map e) = some v
  | [] => rfl
  | a :: v => by
    rw [List.map_cons]
    unfold cvLs
    rw [h.2 a, cvLs_e h v]; rfl
theorem dcL {x : PyData → Option α} {e : α → PyData} (h : Dc x e) : Dc (cvL x) (eL e) := ⟨fun d v q => by
  obtain ⟨ds, h1, h2⟩ := Option.bind_eq_some_iff.mp q
  exact (lstOf_x h1).trans (congrArg PyData.list (cvLs_x h _ v h2)), fun v => cvLs_e h v⟩
def cv0 : List PyData → Option Unit
  | [] => some ()
  | _ => none
def cv1 (x : PyData → Option α) : List PyData → Option α
  | [d] => x d
  | _ => none
theorem dc0 : DcF cv0 f0 := ⟨fun d v h => by cases d <;> cases h; rfl, fun _ => rfl⟩
theorem dc1 {x : PyData → Option α} {e : α → PyData} (h : Dc x e) : DcF (cv1 x) (f1 e) := by
  refine ⟨fun d v q => ?_, fun v => h.2 v⟩
  cases d with
  | nil => cases q
  | cons a r =>
    cases r with
    | nil => exact congrArg (fun z => [z]) (h.1 a v q)
    | cons b r => cases q
end
end DL

/-! DLU: stores into own lists and own rows of lists; lists of new lists. -/
namespace DL
open PySem PySem.Spec PyProof.Rows L2
section
variable {rk : Kd} {X : Cx} {ks : List Kd} {ps : List (Nat × V)} {a b c e o : Expr} {es : List Expr} {pos pos' : Pos}
/-- what was given away comes back -/
theorem EI.takeBack {K : PySem.W.Frag} {G : Addr → Prop} {F : List (List Addr)} {σ : L2.St} {H : Hp} {env : Ev} {i : Nat} {kd : Kd} {Fr : List Addr} {d : PyData} {v : V} (I : EI K ks ps (fun a => G a ∨ a ∈ Fr) F σ H env) (hσ : σ[i]? = some (some v)) (hk : ks[i]? = some kd) (hne : kd ≠ .frz)
    (hn : Fr.Nodup) (hG : ∀ a ∈ Fr, ¬ G a) (ho : OwnAt K H (OO (fun a => G a ∨ a ∈ Fr) F) kd Fr d v) : EI K ks ps G (F.set i Fr) σ H (env.set i (some d)) := by
  have hi : i < ks.length := (List.getElem?_eq_some_iff.mp hk).1
  have less : ∀ a, OO G (F.set i Fr) a → OO (fun a => G a ∨ a ∈ Fr) F a := fun a z => by
    rcases z with z | z
    · exact .inl (.inl z)
    · rcases mem_set z with h | ⟨j, Fj, hj, e, m⟩
      · exact .inl (.inr h)
      · exact .inr (mem_flat.mpr ⟨j, Fj, e, m⟩)
  refine ⟨by rw [List.length_set]; exact I.lF, by rw [List.length_set]; exact I.lE, I.lS, I.nd.set hn fun a ha j Fj hj e m => (I.tr a (mem_flat.mpr ⟨j, Fj, e, m⟩)).2 (.inr ha), fun a ha => ?_, fun a ha => I.gt a (.inl ha), fun j d' kd' h1 h2 => ?_, I.pn, fun j h => ?_⟩
  · rcases mem_set ha with h | ⟨j, Fj, hj, e, m⟩
    · exact ⟨I.gt a (.inr h), hG a h⟩
    · have t := I.tr a (mem_flat.mpr ⟨j, Fj, e, m⟩)
      exact ⟨t.1, fun z => t.2 (.inl z)⟩
  · by_cases hj : j = i
    · subst hj
      rw [List.getElem?_set_self (by rw [I.lE]; exact hi)] at h1
      cases h1
      rw [hk] at h2; cases h2
      exact ⟨v, Fr, hσ, by rw [List.getElem?_set_self (by rw [I.lF]; exact hi)], ho.kp (Kp.less less) fun a _ ob e => e⟩
    · rw [List.getElem?_set_ne (Ne.symm hj)] at h1
      obtain ⟨w, Fj, e1, e2, o⟩ := I.sl j d' kd' h1 h2
      exact ⟨w, Fj, e1, by rw [List.getElem?_set_ne (Ne.symm hj)]; exact e2, o.kp (Kp.less less) fun a _ ob e => e⟩
  · have hj : j ≠ i := fun z => by subst z; rw [hk] at h; exact hne (Option.some.inj h)
    rw [List.getElem?_set_ne (Ne.symm hj)]
    exact I.fz j h
/-- what a slot owns, kept from all that is done meanwhile -/
theorem EI.lent {K : PySem.W.Frag} {G : Addr → Prop} {F : List (List Addr)} {σ : L2.St} {H : Hp} {env : Ev} {i : Nat} {kd : Kd} {d : PyData} (I : EI K ks ps G F σ H env) (h1 : env[i]? = some (some d)) (hk : ks[i]? = some kd) (hne : kd ≠ .frz) :
    ∃ v Fi, σ[i]? = some (some v) ∧ EI K ks ps (fun a => G a ∨ a ∈ Fi) (F.set i []) σ H (env.set i none) ∧ OwnAt K H (OO (fun a => G a ∨ a ∈ Fi) (F.set i [])) kd Fi d v ∧ (∀ a, OO (fun a => G a ∨ a ∈ Fi) (F.set i []) a → OO G F a) ∧ Fi.Nodup ∧
      ∀ F2 H2 env2, Stp (F.set i []) H F2 H2 → EI K ks ps (fun a => G a ∨ a ∈ Fi) F2 σ H2 env2 →
        OwnAt K H2 (OO (fun a => G a ∨ a ∈ Fi) F2) kd Fi d v ∧ (∀ a ∈ Fi, ∀ o, H a = some o → H2 a = some o) ∧
        (EI K ks ps G (F2.set i Fi) σ H2 (env2.set i (some d)) ∧ Stp F H (F2.set i Fi) H2) ∧ (∀ a, OO G (F2.set i Fi) a → OO (fun a => G a ∨ a ∈ Fi) F2 a) ∧
        ∀ b u0 u d', b ∈ Fi → H2 b = some u0 → plainO u0 → OwnAt K (upd H2 b u) (OO (fun a => G a ∨ a ∈ Fi) F2) kd Fi d' v →
          EI K ks ps G (F2.set i Fi) σ (upd H2 b u) (env2.set i (some d')) ∧ Stp F H (F2.set i Fi) (upd H2 b u) := by
  obtain ⟨v, Fi, e1, e2, J, o⟩ := I.giveO h1 hk
  have hnd := I.nd.own i Fi e2
  have inF : ∀ {a : Addr}, a ∈ Fi → a ∈ F.flatten := fun {a} h => mem_flat.mpr ⟨i, Fi, e2, h⟩
  have hG : ∀ a ∈ Fi, ¬ G a := fun a ha => (I.tr a (inF ha)).2
  have notF : ∀ a ∈ Fi, a ∉ (F.set i []).flatten := fun a ha z => (J.tr a z).2 (.inr ha)
  have sub : ∀ a, a ∈ (F.set i []).flatten → a ∈ F.flatten := fun a z => by
    rcases mem_set z with h | ⟨j, Fj, hj, e, m⟩
    · cases h
    · exact mem_flat.mpr ⟨j, Fj, e, m⟩
  refine ⟨v, Fi, e1, J, o, fun a z => ?_, hnd, fun F2 H2 env2 S J2 => ?_⟩
  · rcases z with (z | z) | z
    · exact .inl z
    · exact .inr (inF z)
    · exact .inr (sub a z)
  have keepFi : ∀ a ∈ Fi, ∀ o, H a = some o → H2 a = some o := fun a ha o e => S.keep a o e (notF a ha)
  have o2 := o.kp (S.kp (G := fun a => G a ∨ a ∈ Fi)) keepFi
  have new2 : ∀ a ∈ (F2.set i Fi).flatten, a ∈ F.flatten ∨ H a = none := fun a z => by
    rcases mem_set z with h | ⟨j, Fj, hj, e, m⟩
    · exact .inl (inF h)
    · exact (S.new a (mem_flat.mpr ⟨j, Fj, e, m⟩)).imp (sub a) id
  refine ⟨o2, keepFi, ⟨J2.takeBack e1 hk hne hnd hG o2, fun a ob e n => S.keep a ob e fun z => n (sub a z), S.dom, S.tup, S.frz, new2⟩, fun a z => ?_, fun b u0 u d' hb hu0 pl o3 => ?_⟩
  · rcases z with z | z
    · exact .inl (.inl z)
    · rcases mem_set z with h | ⟨j, Fj, hj, e, m⟩
      · exact .inl (.inr h)
      · exact .inr (mem_flat.mpr ⟨j, Fj, e, m⟩)
  · refine ⟨(J2.put (u0 := u0) (o := u) (.inr hb) hu0 pl).takeBack e1 hk hne hnd hG o3, fun a ob e n => ?_, fun a e => ?_, fun a xs e => ?_, fun a o' u' e => ?_, new2⟩
    · rw [upd_ne (fun z => n (by rw [z]; exact inF hb))]
      exact S.keep a ob e fun z => n (sub a z)
    · by_cases hab : a = b
      · subst hab; rw [upd_same]; simp
      · rw [upd_ne hab]; exact S.dom a e
    · have h2 := S.tup a xs e
      have hab : a ≠ b := fun z => by rw [z, hu0] at h2; cases h2; exact pl
      rw [upd_ne hab]; exact h2
    · have h2 := S.frz a o' u' e
      have hab : a ≠ b := fun z => by rw [z, hu0] at h2; cases h2; exact pl
      rw [upd_ne hab]; exact h2

/-! ### x[k] = e -/
theorem atI_ixN {α : Type} {xs : List α} {k : Int} {j : Nat} (h : ixN xs.length k = some j) : atI xs k = xs[j]? := by unfold atI; rw [h]; rfl
/-! ### rows of one's own -/
theorem map_list_inj : ∀ {a b : List (List PyData)}, a.map PyData.list = b.map PyData.list → a = b
  | [], [], _ => rfl
  | [], _ :: _, h => by cases h
  | _ :: _, [], h => by cases h
  | x :: a, y :: b, h => by
    rw [List.map_cons, List.map_cons] at h
    obtain ⟨h1, h2⟩ := List.cons.inj h
    cases h1
    rw [map_list_inj h2]
/-- a row of what a slot owns -/
theorem OwnAt.row {K : PySem.W.Frag} {H : Hp} {O : Addr → Prop} {Fi : List Addr} {dss : List (List PyData)} {v : V} (o : OwnAt K H O .l2 Fi (.list (dss.map PyData.list)) v) {k : Int} {j : Nat} {row : List PyData} (hj : ixN dss.length k = some j) (hr : dss[j]? = some row) :
    ∃ ad bs b xs, v = .ref ad ∧ Fi = ad :: bs ∧ H ad = some (.lst (bs.map V.ref)) ∧ bs[j]? = some b ∧ bs.length = dss.length ∧ atI (bs.map V.ref) k = some (.ref b) ∧ H b = some (.lst xs) ∧ RepA K H O row xs ∧
      ∀ (i : Nat) b ds, bs[i]? = some b → dss[i]? = some ds → ∃ xs, H b = some (.lst xs) ∧ RepA K H O ds xs := by
  obtain ⟨ad, bs, dss', rfl, e1, rfl, e2, el, r⟩ := o
  have e1 : dss.map PyData.list = dss'.map PyData.list := by injection e1
  cases map_list_inj e1
  have hjl : j < bs.length := by rw [el]; exact (List.getElem?_eq_some_iff.mp hr).1
  have hb : bs[j]? = some bs[j] := List.getElem?_eq_getElem hjl
  obtain ⟨xs, q1, q2⟩ := r j _ _ hb hr
  exact ⟨ad, bs, bs[j], xs, rfl, rfl, e2, hb, el, by rw [atI_ixN (by rw [List.length_map, el]; exact hj), List.getElem?_map, hb]; rfl, q1, q2, r⟩
/-! ### a list of new lists -/
section
variable {G : Addr → Prop} {F : List (List Addr)} {σ : L2.St} {H : Hp} {env e1 e2 : Ev} {mi : M (List PyData)} {g : St1} {t : M Bool} {m : M PyData} {vs : List Nat} {ds ys : List PyData} {Q : VK}
end
end

/-! ### a def that calls itself, so deep at most -/
def recM (ms : (List PyData → Option (PyData × List PyData)) → List PyData → Option (PyData × List PyData)) : Nat → List PyData → Option (PyData × List PyData)
  | 0 => fun _ => none
  | n + 1 => ms (recM ms n)
section
variable {P : Program} {w : World} {K : PySem.W.Frag} {mg : Str → Option Value} {base : Heap} {rk : Kd} {pk : List Kd} {x qual xm : Str}
theorem FnD.none {st : Stmt} {f : Addr} {fd : FuncData} {ps : List Str} {k : Nat} (F : Fun K x qual st f fd) (hm : mg xm = some (.ref f)) (hb : Binds K fd ps []) : FnD P w K mg base k xm pk rk (fun _ => none) :=
  ⟨f, fd, ps, ⟨(fun vs H Q E h => by obtain ⟨_, G, F, ds, d, outs, I, hm, _⟩ := h; cases hm), fun A outer s H args us vs Q E _ _ _ _ _ h => by obtain ⟨_, G, F, ds, d, outs, I, hm, _⟩ := h; cases hm⟩, hm, F.kp, hb⟩
theorem FnD.recN {ms : (List PyData → Option (PyData × List PyData)) → List PyData → Option (PyData × List PyData)} {k : Nat} (h0 : FnD P w K mg base k xm pk rk (fun _ => Option.none)) (hs : ∀ (j : Nat) rec_, k ≤ j → FnD P w K mg base j xm pk rk rec_ → FnD P w K mg base (j + 1) xm pk rk (ms rec_)) : ∀ n, FnD P w K mg base (k + n) xm pk rk (recM ms n)
  | 0 => h0
  | n + 1 => hs (k + n) _ (Nat.le_add_right _ _) (FnD.recN h0 hs n)
end
end DL

/-! DLV: == where what is compared holds a dict: lists of unlike lengths, a tuple and (). -/
namespace DL
open PySem PySem.Spec PyProof.Rows L2
section
variable {X : Cx}
def eqX : PyData → PyData → Option Bool
  | .list xs, .list ys => if xs.length ≠ ys.length then some false else none
  | .tuple xs, .tuple ys => if xs = [] ∨ ys = [] then some (decide (xs.length = ys.length)) else none
  | _, _ => none
def eqE (d e : PyData) : Option PyData := match eqD d e with
  | some r => some r
  | none => (eqX d e).map .bool
theorem o_eqE (hu : X.A.units + 64 < cLine) : Op2 X (compareOp .Eq) eqE := by
  intro pins s σ H x y v u Q I rx ry q
  obtain ⟨O, dx, dy, d, fr, r1, r2, e, q⟩ := q
  unfold eqE at e
  split at e
  · rename_i r hr
    cases e
    exact o_eq hu pins s σ H x y v u Q I rx ry ⟨O, dx, dy, _, fr, r1, r2, hr, q⟩
  · obtain ⟨b, hb, rfl⟩ := Option.map_eq_some_iff.mp e
    have fin : EP X pins σ Q (.bool b) s := ⟨.bl b, H, I, rfl, q _ H (.refl H) rep_bl⟩
    unfold eqX at hb
    split at hb
    · rename_i xs ys hq
      split at hb
      · rename_i hl
        cases hb
        simp only [Rep] at r1 r2
        obtain ⟨a, vs, rfl, t1, a1⟩ := r1
        obtain ⟨a', vs', rfl, t2, a2⟩ := r2
        cases rx
        cases ry
        obtain ⟨its, w1, p1, z1⟩ := I.list t1.sq
        obtain ⟨its', w2, p2, z2⟩ := I.list t2.sq
        refine PySem.SeqAt.eq_list_lengthsAt p1.isList p2.isList ?_ (by omega) fin
        have h1 := w1.length
        have h2 := w2.length
        have h3 := a1.length
        have h4 := a2.length
        simp only [List.size_toArray, bne_iff_ne]
        omega
      · cases hb
    · rename_i xs ys hq
      split at hb
      · rename_i hl
        cases hb
        simp only [Rep] at r1 r2
        obtain ⟨a, vs, rfl, t1, a1⟩ := r1
        obtain ⟨a', vs', rfl, t2, a2⟩ := r2
        cases rx
        cases ry
        obtain ⟨its, w1, p1, z1⟩ := I.tuple t1.sq
        obtain ⟨its', w2, p2, z2⟩ := I.tuple t2.sq
        have h1 := w1.length
        have h2 := w2.length
        have h3 := a1.length
        have h4 := a2.length
        have hm : its.length = 0 ∨ its'.length = 0 := by
          rcases hl with rfl | rfl
          · left; rw [List.length_nil] at h3; omega
          · right; rw [List.length_nil] at h4; omega
        have e3 : ((List.range (min its.toArray.size its'.toArray.size)).all (fun _ => true) && its.toArray.size == its'.toArray.size) = decide (xs.length = ys.length) := by
          have e4 : its.toArray.size = xs.length := by rw [List.size_toArray]; omega
          have e5 : its'.toArray.size = ys.length := by rw [List.size_toArray]; omega
          rw [e4, e5, List.all_eq_true.mpr (fun _ _ => rfl), Bool.true_and]
          exact Bool.eq_iff_iff.mpr (by simp)
        refine PySem.SeqAt.eq_tupleAt (e := fun _ => true) p1 p2 (by omega) (fun j h1 h2 => ?_) (by rw [e3]; exact fin)
        simp only [List.size_toArray] at h1 h2
        omega
      · cases hb
    · cases hb
end
end DL

/-! TYH: typed stores into own lists and own rows. -/
namespace DL
open PySem PySem.Spec PyProof.Rows L2
section
variable {α β γ τ : Type} {ea : α → PyData} {eb : β → PyData} {ec : γ → PyData} {L : SL} {R : τ → Out → Prop}
end

theorem fts_recN {α γ : Type} {ms : (List PyData → Option (PyData × List PyData)) → List PyData → Option (PyData × List PyData)} {k : Nat} {fs : α → List PyData} {ec : γ → PyData} {T : Nat → α → Src → Option (γ × Src)} (h0 : ∀ p s, T 0 p s = none) (hs : ∀ n m, FTS m k fs ec (T n) → FTS (ms m) k fs ec (T (n + 1))) : ∀ n, FTS (recM ms n) k fs ec (T n)
  | 0 => fun s p v s' hv => by rw [h0] at hv; cases hv
  | n + 1 => hs n _ (fts_recN h0 hs n)
theorem q_eqE {α β γ : Type} {ea : α → PyData} {eb : β → PyData} {ec : γ → PyData} {f : α → β → Option γ} (h : Op2T eqD ea eb ec f) : Op2T eqE ea eb ec f := fun a b v hv => by
  show (match eqD (ea a) (eb b) with | some r => some r | none => _) = _
  rw [h a b v hv]
end DL

/-! DLW: a comprehension over a list of one's own, which stays. -/
namespace DL
open PySem PySem.Spec PyProof.Rows L2
section
variable {rk : Kd} {X : Cx} {ks : List Kd} {ps : List (Nat × V)} {a b c e o : Expr} {es : List Expr} {pos pos' : Pos}
section
variable {G : Addr → Prop} {F : List (List Addr)} {σ : L2.St} {H : Hp} {env e1 e2 : Ev} {g : St1} {t : M Bool} {m : M PyData} {vs : List Nat} {ds ys : List PyData} {Q : VK}
end
variable {i : Nat} {x : Str} {px : Pos} {elt tg : Expr} {ifs : List Expr} {scope : Scope} {own : List (Str × Nat)} {g : St1} {t : M Bool} {m : M PyData}
variable {j : Nat} {y : Str} {py spos : Pos}
end
end DL

/-! TYI: typed comprehensions over own lists that stay; tuples of any data read backwards. -/
namespace DL
open PySem PySem.Spec PyProof.Rows L2
section
variable {α β : Type} {ea : α → PyData} {eb : β → PyData} {L : SL}
theorem x_revTA {m : M Opd} {l : M (Option Int)} {t : Option PyData} {tl : Option (Option Int)} (hm : XO eA false m L t) (hl : XQ l L tl) : XP eA (mRevT m l) L (t.bind fun d => tl.bind fun lo => revTD lo d) := fun e he v hv => by
  obtain ⟨d, h1, hv⟩ := Option.bind_eq_some_iff.mp hv
  obtain ⟨lo, h2, hv⟩ := Option.bind_eq_some_iff.mp hv
  obtain ⟨x, e1, q1, q2, q3, q4⟩ := hm e he d h1
  obtain ⟨e2, p1, p2⟩ := hl e1 q2 lo h2
  refine ⟨e2, ?_, p2⟩
  have g3 := q3 e2 p2
  simp only [mRevT, bnd, q1, p1, rs1, g3, q4]
  show (match revTD lo d with | none => none | some r => _) = _
  rw [hv]
  simp
end
section
variable {α β : Type} {ea : α → PyData} {eb : β → PyData} {L : Src → SL}
end

end DL

/-! TYX: plain facts about rows and tables told by functions, sums. -/
namespace DL
open PySem PySem.Spec PyProof.Rows L2
def row {α : Type} (n : Nat) (g : Nat → α) : List α := (List.range n).map g
section
variable {α β γ : Type} {n : Nat} {g h : Nat → α} {f : Nat → Nat → α}
@[simp] theorem row_len : (row n g).length = n := by simp [row]
theorem compG_all {F : α → Option β} (G : α → β) {xs : List α} (hl : xs.length ≤ 1000000) (h : ∀ x ∈ xs, F x = some (G x)) : compG (fun _ => some true) F xs = some (xs.map G) := by
  rw [compG_some (fun _ => true) G hl (fun _ _ => rfl) fun x hx _ => h x hx, List.filter_eq_self.mpr fun _ _ => rfl]
end
/-! ### sums -/
section
variable {n : Nat} {g h : Nat → Int}
end
end DL

/-! DLX: defs that raise an own exception; try .. except. -/
namespace DL
open PySem PySem.Spec PyProof.Rows L2

theorem PSs.or {X : Cx} {st : List Stmt} {t u : TS} (h : PSs X st t) (g : PSs X st u) : PSs X st (fun D σ H => t D σ H ∨ u D σ H) := ⟨fun pins s σ H D I q => q.elim (h.run pins s σ H D I) (g.run pins s σ H D I)⟩
theorem PS.nox {X : Cx} {st : Stmt} {t : TS} (h : PS X.nox st t) : PS X st t := ⟨fun pins s σ H D I hw =>
  wpAny_mono (h.run pins s σ H D (I.wish _) hw) (fun _ _ h => SP.unwish h) fun _ _ z => False.elim z⟩
theorem AP.unwish {X : Cx} {pins : List (Addr × Obj)} {σ : L2.St} {Q : List V → Hp → Prop} {us : List Value} {s : Shared} (h : AP X.nox pins σ Q us s) : AP X pins σ Q us s := by
  obtain ⟨vs, H', I', r, q⟩ := h
  exact ⟨vs, H', I'.unwish, r, q⟩
theorem PA.nox {X : Cx} {es : List Expr} {t : TA} (h : PA X.nox es t) : PA X es t := ⟨fun pos pins s σ H Q I hw =>
  wpAny_mono (h.run pos pins s σ H Q (I.wish _) hw) (fun _ _ h => AP.unwish h) fun _ _ z => False.elim z⟩

section
variable {X : Cx} {C : Addr} {bmB : List Value} {B newId initId : String}
end

/-! ### where a block raises: a mirror that gives True there -/
def tY (K : PySem.W.Frag) (ks : List Kd) (ps : List (Nat × V)) (W : WX) (C : Addr) (y : B) : TS := fun D σ H => ∃ G F env o, EI K ks ps G F σ H env ∧ y env = some o ∧
  match o with
  | .rt (.bool true) e => ∀ σ' F' H', Stp F H F' H' → EI K ks ps G F' σ' H' e → W (.ref C) none σ' H'
  | .nx e => ∀ σ' F' H', Stp F H F' H' → EI K ks ps G F' σ' H' e → D.nx σ' H'
  | _ => False
abbrev YSs (X : Cx) (ks : List Kd) (ps : List (Nat × V)) (W : WX) (C : Addr) (st : List Stmt) (y : B) : Prop := PSs X st (tY X.K ks ps W C y)
section
variable {X : Cx} {ks : List Kd} {ps : List (Nat × V)} {W : WX} {C : Addr} {rk : Kd} {e c : Expr} {es : List Expr} {pos : Pos}
end

/-! ### defs -/
def spX (K : PySem.W.Frag) (n : Nat) (C : Addr) (xf : List PyData → Bool) : Sp := fun vs H _ E => vs.length = n ∧ ∃ O ds, (∀ p, H p = none → ¬ O p) ∧ RepA K H O ds vs ∧ xf ds = true ∧ ∀ H', Same H H' → E (.ref C) none H'
/-- a def (no parameter owned) that raises C where xf tells -/
def FnX (P : Program) (w : World) (K : PySem.W.Frag) (mg : Str → Option Value) (base : Heap) (C : Addr) (k : Nat) (x : Str) (n : Nat) (xf : List PyData → Bool) : Prop :=
  ∃ f fd ps, FnG P w K mg base (L2.CX P w) k f fd ps (spX K n C xf) ∧ mg x = some (.ref f) ∧ PySem.W.keepIn K (.ref f) = true ∧ Binds K fd ps []
theorem FnX.up {P : Program} {w : World} {K : PySem.W.Frag} {mg : Str → Option Value} {base : Heap} {C : Addr} {j k n : Nat} {x : Str} {xf : List PyData → Bool} (F : FnX P w K mg base C j x n xf) (h : j ≤ k) : FnX P w K mg base C k x n xf := by
  obtain ⟨f, fd, ps, h1, h2, h3, h4⟩ := F
  exact ⟨f, fd, ps, h1.up h, h2, h3, h4⟩
/-- where the def raises, by a def that tells it -/
def xOf (my : List PyData → Option (PyData × List PyData)) (ds : List PyData) : Bool := match my ds with
  | some (.bool true, _) => true
  | _ => false
theorem FnX.of_body {P : Program} {w : World} {K : PySem.W.Frag} {mg : Str → Option Value} {base : Heap} {k : Nat} {f : Addr} {fd : FuncData} {C : Addr} {x qual xm : Str} {st : Stmt} {N ps : List Str} {ks : List Kd} {n : Nat} {y : B} (F : Fun K x qual st f fd) (hm : mg xm = some (.ref f)) (hb : Binds K fd ps []) (S : FnScope N ps (defScope st)) (hpk : n = ps.length) (hks : ks.length = N.length)
    (htk : ks.take n = List.replicate n .frz)
    (body : ∀ (cdv : Value) (A : Around) (outer : List Env) (s : Shared) (H : Hp) (E : XK) (vs : List V), Room k (A.deeper (envOfC qual (defScope st) s.heap.objs.size f cdv)) → (A.deeper (envOfC qual (defScope st) s.heap.objs.size f cdv)).guards = some [] → vs.length = ps.length →
      Takes (cxOf (L2.CX P w) P w K mg base N qual (defScope st) f cdv A outer s H E) (fun cls d _ H => E cls d H) →
      YSs (cxOf (L2.CX P w) P w K mg base N qual (defScope st) f cdv A outer s H E) ks (pinsOf [] vs) (fun cls d _ H => E cls d H) C (defBody st) y) : FnX P w K mg base C (k + 1) xm n (xOf (mDef .frz (List.replicate n .frz) N.length y)) := by
  refine ⟨f, fd, ps, FnG.of_body F S (fun vs H Q E h => by rw [h.1, hpk]) (fun cdv A outer s H vs Q E room hg h => ?_), hm, F.kp, hb⟩
  obtain ⟨hl, O, ds, fr, ra, hxf, q⟩ := h
  have hl2 : vs.length = ps.length := by rw [hl, hpk]
  refine ⟨_, body cdv A outer s H E vs room hg hl2 (takes_of rfl rfl rfl rfl), ?_⟩
  have hd : ds.length = n := by rw [ra.length]; exact hl
  have I0 := EI.start (ks := ks) (ps := pinsOf [] vs) (n := N.length) (N := N) (frz_EI fr ra hd) rfl hks (by rw [List.length_replicate]; exact htk) (fun p hp => nomatch hp)
  unfold xOf at hxf
  split at hxf
  · rename_i outs h1
    unfold mDef at h1
    split at h1
    · rename_i d e h2
      obtain ⟨os, _, h3⟩ := Option.map_eq_some_iff.mp h1
      cases h3
      refine ⟨_, _, _, _, I0, h2, fun σ' F' H' S J => q H' fun a o e => S.keep a o e fun z => ?_⟩
      exact noF_rep (flat_pad.mp z)
    · rename_i e h2
      rw [if_pos rfl] at h1
      obtain ⟨os, _, h3⟩ := Option.map_eq_some_iff.mp h1
      cases h3
    · cases h1
  · cases hxf

section
variable {X : Cx} {CX : CXT} {k : Nat} {f : Addr} {fd : FuncData} {ps : List Str} {sp : Sp} {E : L2.St → XK} {x : Str} {p pos : Pos} {e : Expr} {es : List Expr} {t : TA}
theorem FnG.atS {pins : List (Addr × Obj)} {σ : L2.St} {H : Hp} {s : Shared} {Q : VK} {us : List Value} {vs : List V} (F : FnG X.prog X.w X.K X.mg X.base CX k f fd ps sp) (hr : Room k X.A) (hg : X.A.guards = some []) (hb : Binds X.K fd ps []) (hx : PassesAt CX X σ (E σ))
    (I : Inv X pins σ H s) (r : Vals vs us) (h : sp vs H Q (E σ)) : wpAny (model X.prog X.w) X.A (call (.ref f) us) (EP X pins σ Q) X.xe s := by
  have hl : us.length = ps.length := by rw [← r.length]; exact F.len _ _ _ _ h
  have hbt : BindsTo s fd ⟨us, []⟩ (ps.zip us) := by
    have := hb s us I.kIn (by rw [List.append_nil]; exact hl)
    rwa [List.append_nil] at this
  refine wpAny_call (codeAny_mono (F.run X.A X.stack s H ⟨us, []⟩ us vs Q (E σ) hr hg I.env0 hbt r h) ?_)
  intro res s' hq
  match res, hq with
  | .error e, hq => exact hx pins H s e s' I hq
  | .ok (.ret u), hq => exact I.after hq
  | .ok .next, hq => exact False.elim hq
  | .ok .brk, hq => exact False.elim hq
  | .ok .cont, hq => exact False.elim hq
end
section
variable {X : Cx} {ks : List Kd} {ps : List (Nat × V)} {W : WX} {C : Addr} {rk : Kd} {e c : Expr} {es : List Expr} {pos : Pos}
end
end DL

/-! DLY: dicts of one's own: a store, a look, whether a key is there. -/
namespace DL
open PySem PySem.Spec PyProof.Rows L2

def keq1 : PyData → PyData → Bool
  | .int a, .int b => decide (a = b)
  | .str a, .str b => decide (a = b)
  | _, _ => false
def keqA : List PyData → List PyData → Bool
  | [], [] => true
  | x :: xs, y :: ys => keq1 x y && keqA xs ys
  | _, _ => false
def keq : PyData → PyData → Bool
  | .tuple xs, .tuple ys => keqA xs ys
  | x, y => keq1 x y
def isK : PyData → Bool
  | .int _ => true
  | .str _ => true
  | _ => false
def isT : PyData → Bool
  | .tuple ds => ds.all isK && !kt (.tuple ds)
  | _ => false
def kOk : Kd → PyData → Bool
  | .dk, d => isK d
  | .dt, d => isT d
  | _, _ => false
def valD (kvs : List (PyData × PyData)) (k : PyData) : Option PyData := (kvs.find? fun p => keq p.1 k).map (·.2)
def hasD (kvs : List (PyData × PyData)) (k : PyData) : Bool := kvs.any fun p => keq p.1 k
def putD (kvs : List (PyData × PyData)) (k v : PyData) : List (PyData × PyData) := if hasD kvs k = true then kvs.map (fun p => if keq p.1 k = true then (p.1, v) else p) else kvs ++ [(k, v)]

theorem keq1_k (a b : L2.Key) : keq1 (kD a) (kD b) = decide (a = b) := by
  cases a <;> cases b <;> simp [kD, keq1]
theorem keq_k (a b : L2.Key) : keq (kD a) (kD b) = decide (a = b) := by
  rw [← keq1_k]
  cases a <;> cases b <;> rfl
theorem keqA_k : ∀ (a b : List L2.Key), keqA (a.map kD) (b.map kD) = decide (a = b)
  | [], [] => by simp [keqA]
  | [], _ :: _ => by simp [keqA]
  | _ :: _, [] => by simp [keqA]
  | x :: a, y :: b => by
    simp only [List.map_cons, keqA, keq1_k, keqA_k a b]
    by_cases h1 : x = y <;> by_cases h2 : a = b <;> simp [h1, h2]
theorem keq_t (a b : List L2.Key) : keq (tpD a) (tpD b) = decide (a = b) := keqA_k a b
theorem isK_ex {d : PyData} (h : isK d = true) : ∃ k, d = kD k := by
  cases d with
  | int i => exact ⟨.inl i, rfl⟩
  | str x => exact ⟨.inr x, rfl⟩
  | _ => cases h
theorem isKs_ex : ∀ {ds : List PyData}, ds.all isK = true → ∃ k, ds = List.map kD k
  | [], _ => ⟨[], rfl⟩
  | d :: ds, h => by
    rw [List.all_cons, Bool.and_eq_true] at h
    obtain ⟨k, rfl⟩ := isK_ex h.1
    obtain ⟨r, rfl⟩ := isKs_ex h.2
    exact ⟨k :: r, rfl⟩
theorem isT_ex {d : PyData} (h : isT d = true) : ∃ k, d = tpD k ∧ kt d = false := by
  cases d with
  | tuple ds =>
    unfold isT at h
    rw [Bool.and_eq_true] at h
    obtain ⟨k, rfl⟩ := isKs_ex h.1
    exact ⟨k, rfl, by simpa using h.2⟩
  | _ => cases h
section
variable {K : PySem.W.Frag} {H : Hp} {O : Addr → Prop}
theorem rep_kD {k : L2.Key} {v : V} (h : Rep K H O (kD k) v) : v = kV k := by
  cases k with
  | inl i => simp only [kD, Rep] at h; exact h
  | inr x => simp only [kD, Rep] at h; exact h
theorem repA_kD : ∀ {k : List L2.Key} {vs : List V}, RepA K H O (k.map kD) vs → vs = k.map kV
  | [], vs, h => by simpa only [List.map_nil, RepA] using h
  | a :: k, vs, h => by
    simp only [List.map_cons, RepA] at h
    obtain ⟨x, r, rfl, h1, h2⟩ := h
    rw [rep_kD h1, repA_kD h2]; rfl
theorem rep_tpD {k : List L2.Key} {v : V} (hk : kt (tpD k) = false) (h : Rep K H O (tpD k) v) : ∃ b, v = .ref b ∧ H b = some (.tup (k.map kV)) := by
  unfold tpD at h hk
  simp only [Rep] at h
  obtain ⟨b, xs, rfl, h1, h2⟩ := h
  rcases h1 with h1 | h1
  · exact ⟨b, rfl, by rw [h1, repA_kD h2]⟩
  · rw [hk] at h1; exact absurd h1.2 (by decide)
end
section
variable {K : PySem.W.Frag} {H : Hp} {O : Addr → Prop} {κ : Type} [DecidableEq κ] {em : κ → PyData}
theorem val_rel (he : ∀ a b, keq (em a) (em b) = decide (a = b)) (k : κ) : ∀ {kvs : List (PyData × PyData)} {l : List (κ × V)}, kvs.map (·.1) = l.map (fun p => em p.1) → RepV K H O kvs (l.map (·.2)) →
    (valD kvs (em k) = none ∧ valV l k = none) ∨ ∃ d v, valD kvs (em k) = some d ∧ valV l k = some v ∧ Rep K H O d v
  | [], [], _, _ => .inl ⟨rfl, rfl⟩
  | [], _ :: _, h, _ => by simp at h
  | _ :: _, [], h, _ => by simp at h
  | (k0, d) :: kvs, (k1, v) :: l, h, r => by
    simp only [List.map_cons, List.cons.injEq] at h
    obtain ⟨rfl, h⟩ := h
    simp only [List.map_cons, RepV] at r
    obtain ⟨x, t, e, r1, r2⟩ := r
    cases e
    unfold valD valV
    rw [List.find?_cons, List.find?_cons, he]
    by_cases q : k1 = k
    · simp only [q, decide_true, Option.map_some]
      exact .inr ⟨d, v, rfl, rfl, r1⟩
    · simp only [q, decide_false]
      exact val_rel he k h r2
theorem has_rel (he : ∀ a b, keq (em a) (em b) = decide (a = b)) (k : κ) : ∀ {kvs : List (PyData × PyData)} {l : List (κ × V)}, kvs.map (·.1) = l.map (fun p => em p.1) → hasD kvs (em k) = l.any fun kv => decide (kv.1 = k)
  | [], [], _ => rfl
  | [], _ :: _, h => by simp at h
  | _ :: _, [], h => by simp at h
  | (k0, d) :: kvs, (k1, v) :: l, h => by
    simp only [List.map_cons, List.cons.injEq] at h
    obtain ⟨rfl, h⟩ := h
    unfold hasD
    rw [List.any_cons, List.any_cons, he]
    congr 1
    exact has_rel he k h
theorem map_rel (he : ∀ a b, keq (em a) (em b) = decide (a = b)) (k : κ) {y : PyData} {w : V} (hy : Rep K H O y w) : ∀ {kvs : List (PyData × PyData)} {l : List (κ × V)}, kvs.map (·.1) = l.map (fun p => em p.1) → RepV K H O kvs (l.map (·.2)) →
    (kvs.map fun p => if keq p.1 (em k) = true then (p.1, y) else p).map (·.1) = (l.map fun kv => if kv.1 = k then (kv.1, w) else kv).map (fun p => em p.1) ∧
    RepV K H O (kvs.map fun p => if keq p.1 (em k) = true then (p.1, y) else p) ((l.map fun kv => if kv.1 = k then (kv.1, w) else kv).map (·.2))
  | [], [], _, _ => ⟨rfl, by simp only [List.map_nil, RepV]⟩
  | [], _ :: _, h, _ => by simp at h
  | _ :: _, [], h, _ => by simp at h
  | (k0, d) :: kvs, (k1, v) :: l, h, r => by
    simp only [List.map_cons, List.cons.injEq] at h
    obtain ⟨rfl, h⟩ := h
    simp only [List.map_cons, RepV] at r
    obtain ⟨x, t, e, r1, r2⟩ := r
    cases e
    obtain ⟨i1, i2⟩ := map_rel he k hy h r2
    simp only [List.map_cons, he, decide_eq_true_eq]
    by_cases q : k1 = k
    · simp only [q, if_true]
      exact ⟨by rw [i1], by simp only [RepV]; exact ⟨_, _, rfl, hy, i2⟩⟩
    · simp only [q, if_false]
      exact ⟨by rw [i1], by simp only [RepV]; exact ⟨_, _, rfl, r1, i2⟩⟩
theorem put_rel (he : ∀ a b, keq (em a) (em b) = decide (a = b)) (k : κ) {y : PyData} {w : V} (hy : Rep K H O y w) {kvs : List (PyData × PyData)} {l : List (κ × V)} (h : kvs.map (·.1) = l.map (fun p => em p.1)) (r : RepV K H O kvs (l.map (·.2))) :
    (putD kvs (em k) y).map (·.1) = (putK l k w).map (fun p => em p.1) ∧ RepV K H O (putD kvs (em k) y) ((putK l k w).map (·.2)) := by
  unfold putD putK
  rw [has_rel he k h]
  by_cases q : (l.any fun kv => decide (kv.1 = k)) = true
  · rw [if_pos q, if_pos q]
    exact map_rel he k hy h r
  · rw [if_neg q, if_neg q]
    refine ⟨by rw [List.map_append, List.map_append, h]; rfl, ?_⟩
    rw [RepV_iff] at r ⊢
    rw [List.map_append, List.map_append]
    exact r.append (.cons hy .nil)
end

def dctAt (i : Nat) (e : Ev) : Option (List (PyData × PyData)) := match e[i]? with
  | some (some (.dict kvs)) => some kvs
  | _ => none
theorem dctAt_some {i : Nat} {e : Ev} {kvs : List (PyData × PyData)} (h : dctAt i e = some kvs) : e[i]? = some (some (.dict kvs)) := by
  unfold dctAt at h
  split at h
  · cases h; assumption
  · cases h
section
variable {rk : Kd} {X : Cx} {ks : List Kd} {ps : List (Nat × V)} {a b c e o : Expr} {es : List Expr} {pos pos' : Pos}
/-- a look at an own dict -/
theorem EI.dget {K : PySem.W.Frag} {G : Addr → Prop} {F : List (List Addr)} {σ : L2.St} {H : Hp} {env : Ev} {i : Nat} {kd : Kd} {kvs : List (PyData × PyData)} {k : PyData} {y : V} (I : EI K ks ps G F σ H env) (h : dctAt i env = some kvs) (hk : ks[i]? = some kd) (ok : kOk kd k = true) (hr : Rep K H (OO G F) k y) :
    ∃ ad o, σ[i]? = some (some (.ref ad)) ∧ DGet H ad y o ∧ ((valD kvs k = none ∧ o = none) ∨ ∃ d v, valD kvs k = some d ∧ o = some v ∧ Rep K H (OO G F) d v) := by
  obtain ⟨w, Fi, hσ, hF, ow⟩ := I.sl i _ _ (dctAt_some h) hk
  cases kd with
  | dk =>
    obtain ⟨ad, kvs', l, rfl, e5, rfl, e6, e7, rv⟩ := ow
    cases e5
    obtain ⟨κ, rfl⟩ := isK_ex ok
    have ey := rep_kD hr
    subst ey
    refine ⟨ad, _, hσ, DGet.k e6, ?_⟩
    exact val_rel keq_k κ e7 rv
  | dt =>
    obtain ⟨ad, kvs', l, rfl, e5, rfl, e6, e7, rv⟩ := ow
    cases e5
    obtain ⟨κ, rfl, hkt⟩ := isT_ex ok
    obtain ⟨b, rfl, hb⟩ := rep_tpD hkt hr
    refine ⟨ad, _, hσ, DGet.t e6 hb, ?_⟩
    exact val_rel keq_t κ e7 rv
  | _ => cases ok
/-- x[k] = e -/
def sDPut (kd : Kd) (i : Nat) (me mi : M PyData) : B := fun e => match me e with
  | none => none
  | some (y, e1) => match dctAt i e1 with
    | none => none
    | some kvs => match mi (e1.set i none) with
      | some (k, e2) => if kOk kd k = true ∧ kvs.length ≤ 1000000 then some (.nx (e2.set i (some (.dict (putD kvs k y))))) else none
      | none => none
theorem sd_dPut {i : Nat} {kd : Kd} {x : Str} {p1 p2 : Pos} {me mi : M PyData} {ix : Expr} (hu : X.A.units + 1 < cLine) (hN : X.N[i]? = some x) (hk : ks[i]? = some kd) (he : ED X ks ps e me) (hi : ED X ks ps ix mi) (hv : Vis X.env.scope x := by first | exact Or.inl rfl | exact Or.inr (Or.inl rfl) | exact Or.inr (Or.inr rfl))
    (hd : (x == ("__debug__" : Str)) = false := by decide) (hcd : (x == ("__classdict__" : Str)) = false := by decide)
    (hs : swapsWith e (some (.Subscript (.Name x p1) ix p2)) pos.line X.env = pure false := by rfl) :
    SD X ks ps rk (.Assign [.Subscript (.Name x p1) ix p2] e pos) (DL.sDPut kd i me mi) :=
  PS.imp (ps_dput hu (pe_var hN hv hd hcd) hi he hs) fun D σ H q => by
    obtain ⟨G, F, env, out, I, hm, q⟩ := q
    unfold DL.sDPut at hm
    split at hm
    · cases hm
    · rename_i y e1 g1
      split at hm
      · cases hm
      · rename_i kvs g2
        split at hm
        · rename_i k e2 g3
          split at hm
          · rename_i g4
            obtain ⟨ok, hl⟩ := g4
            cases hm
            refine ⟨G, F, env, y, e1, I, g1, fun v F1 H1 S1 I1 r1 => ?_⟩
            have hne : kd ≠ .frz := by rintro rfl; cases ok
            obtain ⟨w, Fi, hσ, J, o, less, hnd, back⟩ := I1.lent (dctAt_some g2) hk hne
            refine ⟨w, hσ, _, F1.set i [], _, k, e2, J, g3, fun u F2 H2 S2 J2 r2 => ?_⟩
            obtain ⟨o2, kf, _, less2, put⟩ := back F2 H2 e2 S2 J2
            have hl' : ∀ n : Nat, n = kvs.length → n < sizeLine := fun n e => by rw [e]; exact Nat.lt_of_le_of_lt hl (by rw [sizeLine_eq]; decide)
            cases kd with
            | dk =>
              obtain ⟨ad, kvs', l, rfl, e5, rfl, e6, e7, rv⟩ := o2
              cases e5
              obtain ⟨κ, rfl⟩ := isK_ex ok
              have ey := rep_kD r2
              subst ey
              have kp : ∀ o', Kp (OO (fun a => G a ∨ a ∈ [ad]) F2) H2 (OO (fun a => G a ∨ a ∈ [ad]) F2) (upd H2 ad o') := fun o' => Kp.put (.inl (.inr (List.mem_singleton.mpr rfl))) e6
              have rv' : Rep X.K H2 (OO (fun a => G a ∨ a ∈ [ad]) F2) y v := Rep.kp ((Kp.less less).trans (S2.kp (G := fun a => G a ∨ a ∈ [ad]))) r1
              obtain ⟨p1, p2⟩ := put_rel keq_k κ rv' e7 rv
              refine ⟨ad, _, rfl, DPut.k e6 (hl' _ (by have := congrArg List.length e7; simpa using this.symm)), ?_⟩
              obtain ⟨J3, S3⟩ := put ad _ (.dK (putK l κ v)) (.dict (putD kvs (kD κ) y)) (List.mem_singleton.mpr rfl) e6 trivial ⟨ad, _, _, rfl, rfl, rfl, upd_same, p1, RepV.kp (kp _) p2⟩
              exact q _ _ _ (S1.trans S3) J3
            | dt =>
              obtain ⟨ad, kvs', l, rfl, e5, rfl, e6, e7, rv⟩ := o2
              cases e5
              obtain ⟨κ, rfl, hkt⟩ := isT_ex ok
              obtain ⟨b, rfl, hb⟩ := rep_tpD hkt r2
              have kp : ∀ o', Kp (OO (fun a => G a ∨ a ∈ [ad]) F2) H2 (OO (fun a => G a ∨ a ∈ [ad]) F2) (upd H2 ad o') := fun o' => Kp.put (.inl (.inr (List.mem_singleton.mpr rfl))) e6
              have rv' : Rep X.K H2 (OO (fun a => G a ∨ a ∈ [ad]) F2) y v := Rep.kp ((Kp.less less).trans (S2.kp (G := fun a => G a ∨ a ∈ [ad]))) r1
              obtain ⟨p1, p2⟩ := put_rel keq_t κ rv' e7 rv
              refine ⟨ad, _, rfl, DPut.t e6 hb (hl' _ (by have := congrArg List.length e7; simpa using this.symm)), ?_⟩
              obtain ⟨J3, S3⟩ := put ad _ (.dT (putK l κ v)) (.dict (putD kvs (tpD κ) y)) (List.mem_singleton.mpr rfl) e6 trivial ⟨ad, _, _, rfl, rfl, rfl, upd_same, p1, RepV.kp (kp _) p2⟩
              exact q _ _ _ (S1.trans S3) J3
            | _ => cases ok
          · cases hm
        · cases hm
end
end DL

/-! DLZ: list(x) in a new list of lists, rows put in each other's place, the truth of a list. -/
namespace DL
open PySem PySem.Spec PyProof.Rows L2
section
variable {rk : Kd} {X : Cx} {ks : List Kd} {ps : List (Nat × V)} {a b c e o : Expr} {es : List Expr} {pos pos' : Pos}
theorem RepA.isEmpty {K : PySem.W.Frag} {H : Hp} {O : Addr → Prop} {ds : List PyData} {xs : List V} (h : RepA K H O ds xs) : ds.isEmpty = xs.isEmpty := by
  have := h.length
  cases ds <;> cases xs <;> first | rfl | (simp at this)
theorem Stp.sub {F F1 F' : List (List Addr)} {H H' : Hp} (S : Stp F1 H F' H') (h : ∀ a, a ∈ F1.flatten → a ∈ F.flatten) : Stp F H F' H' :=
  ⟨fun a o e n => S.keep a o e fun z => n (h a z), S.dom, S.tup, S.frz, fun a z => (S.new a z).imp (h a) id⟩
end
end DL

namespace DL
open PySem PySem.Spec PyProof.Rows L2
section
open PySem.W
variable {prog : Program} {w : World} {A : Around} {s : Shared} {E : Value → Shared → Prop}
theorem sortsAt_one {vs : List Value} {ds : List PyData} (e : EachIs (fun v d => ∃ as, Reads s.heap v d as) vs ds) (hal : AllAlike ds) (hn : ∀ d, d ∈ ds → d ≠ .none) (h1 : vs.length ≤ 1) (hu : ∀ d, d ∈ ds → A.units + d.depth < cLine) : SortsAt prog w A s (dataKind s.heap ds) vs := by
  refine ⟨fun v hv => ?_, general', ?_, fun h2 => absurd h2 (by omega)⟩
  · obtain ⟨d, hd, as, r⟩ := e.left v hv
    exact ⟨_, dataKind_some hal hd r⟩
  · intro E x y a b Q ha hb hq
    obtain ⟨d, as, hd, ra, rfl⟩ := dataKind_inv ha
    obtain ⟨d', as', hd', rb, rfl⟩ := dataKind_inv hb
    show wpAny _ _ (oneLt' false x y) _ _ _
    exact oneLt_alike (fun z => nomatch z) ra rb (hal d hd d' hd') (hn d hd) (Nat.lt_of_le_of_lt (Nat.add_le_add_left (Nat.min_le_left _ _) _) (hu d hd)) hq
def SortE (ds : List PyData) : Prop := Sortable ds ∨ (ds.length ≤ 1 ∧ ∀ d, d ∈ ds → d ≠ .none)
theorem sorted_dataE {β : Type} {R : Value → β → Prop} {enc : β → PyData} {vs : List Value} {bs : List β} {l : Addr} {Q : Value → Shared → Prop} (hl : s.heap.IsList l vs.toArray) (e : EachIs R vs bs) (er : EachIs (fun v b => ∃ as, Reads s.heap v (enc b) as) vs bs) (hal : AllAlike (bs.map enc)) (hk : SortE (bs.map enc)) (hL : bs.length ≤ sizeLine)
    (hu : ∀ b, b ∈ bs → A.units + 2 + (enc b).depth < cLine) (h : ∀ out, out.length = bs.length → EachIs R out (bs.mergeSort (dataLe false enc)) → Q (.ref (s.heap.objs.size + 1)) { s with heap := sortedAll s.heap vs (List.toArray out) }) :
    wpAny (model prog w) A (call (.builtin "sorted") [.ref l]) Q E s := by
  rcases hk with hk | ⟨h1, hn⟩
  · exact sorted_data hl e er hal hk hL hu h
  · have er' : EachIs (fun v b => ∃ as, Reads (sortingHeap (copyHeap s.heap vs) (s.heap.objs.size + 1) vs) v (enc b) as) vs bs := er.mono fun _ _ ⟨as, r⟩ => ⟨as, PyProof.Rows.Reads.keeps (fun _ _ => sorting_copy_old) r⟩
    exact sorted_vals hl (sortsAt_one (s := { s with heap := sortingHeap (copyHeap s.heap vs) (s.heap.objs.size + 1) vs }) (each_map (R := fun v d => ∃ as, Reads (sortingHeap (copyHeap s.heap vs) (s.heap.objs.size + 1) vs) v d as) enc er') hal hn (by rw [e.length]; simpa using h1) (bound_map hu)) (by rw [e.length]; exact hL)
      (h _ (by rw [sortVals_length false rfl]; exact e.length) (sortVals_data false e er' hal))
end
def sortEB (ds : List PyData) : Bool := sortB ds || (decide (ds.length ≤ 1) && ds.all fun d => match d with
  | .none => false
  | _ => true)
theorem sortE_ok {ds : List PyData} (h : sortEB ds = true) : SortE ds := by
  unfold sortEB at h
  rw [Bool.or_eq_true, Bool.and_eq_true, decide_eq_true_eq, List.all_eq_true] at h
  refine h.imp sortB_ok fun h => ⟨h.1, fun d hd => ?_⟩
  rintro rfl
  exact absurd (h.2 _ hd) (by decide)
/-- sorted, also of a list of at most one item of any kind -/
def sortedE : List PyData → Option PyData
  | [.list ds] => if alikeB ds && sortEB ds && layA ds && decide (ds.length ≤ 1000000) && decide (PyData.depthAll ds ≤ 60) then some (.list (sortL ds)) else none
  | _ => none
section
variable {X : Cx}
end
end DL

/-! TYJ: typed: xs[::-1] of an own list, try, dicts of one's own (kept as data). -/
namespace DL
open PySem PySem.Spec PyProof.Rows L2
section
variable {α β γ τ : Type} {ea : α → PyData} {eb : β → PyData} {L : SL} {own : Bool} {R : τ → Out → Prop}
def dPutT (kd : Kd) (d k v : PyData) : Option PyData := match d with
  | .dict kvs => if kOk kd k = true ∧ kvs.length ≤ 1000000 then some (.dict (putD kvs k v)) else none
  | _ => none
theorem dctAt_of {i : Nat} {e : Ev} {kvs : List (PyData × PyData)} (h : e[i]? = some (some (.dict kvs))) : dctAt i e = some kvs := by unfold dctAt; rw [h]
theorem xb_dPut {kd : Kd} {i : Nat} {d : PyData} {me mi : M PyData} {r : B} {t : Option α} {tk : Option β} {T : PyData → Option τ} (hi : L[i]? = some (some (some (eA d)))) (he : XP ea me L t) (hk : XP eb mi (L.set i (some none)) tk) {t' : Option PyData} (q : t' = t.bind fun v => tk.bind fun k => dPutT kd d (eb k) (ea v)) (hr : ∀ d', XB r (L.set i (some (some (eA d')))) (T d') R) :
    XB (sSeq (DL.sDPut kd i me mi) r) L (t'.bind T) R := fun e hm v hv => by
  subst q
  obtain ⟨d', h0, h5⟩ := Option.bind_eq_some_iff.mp hv
  obtain ⟨x, h1, h2⟩ := Option.bind_eq_some_iff.mp h0
  obtain ⟨k, h3, h4⟩ := Option.bind_eq_some_iff.mp h2
  obtain ⟨e1, g1, g2⟩ := he e hm x h1
  obtain ⟨e2, g3, g4⟩ := hk _ (g2.set i none) k h3
  unfold dPutT at h4
  split at h4
  · rename_i kvs
    split at h4
    · rename_i ok
      cases h4
      have hL : L.set i (some (some (PyData.dict (putD kvs (eb k) (ea x))))) = (L.set i (some none)).set i (some (some (PyData.dict (putD kvs (eb k) (ea x))))) := by rw [List.set_set]
      obtain ⟨o, k1, k2⟩ := hr _ (e2.set i (some (.dict (putD kvs (eb k) (ea x))))) (by show Mt _ (L.set i (some (some (PyData.dict (putD kvs (eb k) (ea x)))))); rw [hL]; exact g4.set i _) v h5
      refine ⟨o, ?_, k2⟩
      unfold sSeq DL.sDPut
      rw [g1]; dsimp only
      rw [dctAt_of (g2.at_ _ _ hi)]; dsimp only
      rw [g3]; dsimp only
      rw [if_pos ok]
      exact k1
    · cases h4
  · cases h4
theorem Mt.un {e : Ev} {L : SL} (h : Mt e L) {j : Nat} (hj : L[j]? = some none) (x : Option PyData) : Mt (e.set j x) L where
  len := by rw [List.length_set]; exact h.len
  at_ := fun i y hi => by
    by_cases hij : j = i
    · subst hij; rw [hj] at hi; cases hi
    · rw [List.getElem?_set_ne hij]; exact h.at_ i y hi
theorem sortedE_of {ds : List PyData} {v : PyData} (h : sortedD ds = some v) : sortedE ds = some v := by
  unfold sortedD at h
  split at h
  · rename_i l
    split at h
    · rename_i hc
      cases h
      unfold sortedE
      dsimp only
      rw [if_pos]
      simp only [Bool.and_eq_true] at hc ⊢
      obtain ⟨⟨⟨⟨c1, c2⟩, c3⟩, c4⟩, c5⟩ := hc
      refine ⟨⟨⟨⟨c1, ?_⟩, c3⟩, c4⟩, c5⟩
      unfold sortEB
      rw [c2]; rfl
    · cases h
  · cases h
theorem q_sortedE {le : α → α → Bool} {n : Nat} (S : SrtE ea le n) (hn : n ≤ 60 := by decide) : ∀ (p : List α × Unit) v, (fun p : List α × Unit => sortT le p.1) p = some v → sortedE (fC (eL ea) f0 p) = some (eL ea v) := fun p v h => sortedE_of (q_sorted S hn p v h)
end
end DL

/-! DM1: dict(list of pairs), len of a dict, d.get(k, x). -/
namespace DL
open PySem PySem.Spec PyProof.Rows L2
def mergeD (acc prs : List (PyData × PyData)) : List (PyData × PyData) := prs.foldl (fun a p => putD a p.1 p.2) acc
def pairsOf : List PyData → Option (List (PyData × PyData))
  | [] => some []
  | d :: r => match d with
    | .tuple [k, v] => if isK k = true then (pairsOf r).map fun t => (k, v) :: t else none
    | _ => none
section
variable {K : PySem.W.Frag} {H : Hp} {O : Addr → Prop}
theorem pairs_rel : ∀ {ds : List PyData} {prs : List (PyData × PyData)} {vs : List V}, pairsOf ds = some prs → RepA K H O ds vs → ∃ (ps : List Addr) (kvs : List (L2.Key × V)), vs = ps.map V.ref ∧ Paired (fun p kv => SqT K H p [kV kv.1, kv.2]) ps kvs ∧ prs.map (·.1) = kvs.map (fun p => kD p.1) ∧ RepV K H O prs (kvs.map (·.2))
  | [], prs, vs, e, r => by
    cases e
    simp only [RepA] at r
    subst r
    exact ⟨[], [], rfl, .nil, rfl, by simp only [List.map_nil, RepV]⟩
  | d :: ds, prs, vs, e, r => by
    unfold pairsOf at e
    split at e
    · rename_i k v
      split at e
      · rename_i hk
        obtain ⟨t, h1, rfl⟩ := Option.map_eq_some_iff.mp e
        obtain ⟨κ, rfl⟩ := isK_ex hk
        simp only [RepA] at r
        obtain ⟨x, rest, rfl, hx, hr⟩ := r
        simp only [Rep] at hx
        obtain ⟨a, xs, rfl, ht, ha⟩ := hx
        obtain ⟨y, z, rfl, r1, r2⟩ := repA2 ha
        have ey := rep_kD r1
        subst ey
        obtain ⟨ps, kvs, rfl, q1, q2, q3⟩ := pairs_rel h1 hr
        refine ⟨a :: ps, (κ, z) :: kvs, rfl, .cons ht.sq q1, by rw [List.map_cons, List.map_cons, q2], ?_⟩
        simp only [List.map_cons, RepV]
        exact ⟨z, _, rfl, r2, q3⟩
      · cases e
    · cases e
theorem merge_rel : ∀ {prs : List (PyData × PyData)} {kvs : List (L2.Key × V)} {acc : List (PyData × PyData)} {l : List (L2.Key × V)}, acc.map (·.1) = l.map (fun p => kD p.1) → RepV K H O acc (l.map (·.2)) → prs.map (·.1) = kvs.map (fun p => kD p.1) → RepV K H O prs (kvs.map (·.2)) →
    (mergeD acc prs).map (·.1) = (mergeK l kvs).map (fun p => kD p.1) ∧ RepV K H O (mergeD acc prs) ((mergeK l kvs).map (·.2))
  | [], [], acc, l, h1, h2, _, _ => ⟨h1, h2⟩
  | [], _ :: _, acc, l, _, _, h, _ => by simp at h
  | _ :: _, [], acc, l, _, _, h, _ => by simp at h
  | (k, d) :: prs, (κ, v) :: kvs, acc, l, h1, h2, h3, h4 => by
    simp only [List.map_cons, List.cons.injEq] at h3
    obtain ⟨rfl, h3⟩ := h3
    simp only [List.map_cons, RepV] at h4
    obtain ⟨x, r, e, r1, r2⟩ := h4
    cases e
    obtain ⟨p1, p2⟩ := put_rel keq_k κ r1 h1 h2
    exact merge_rel (prs := prs) (kvs := kvs) p1 p2 h3 r2
end
section
variable {rk : Kd} {X : Cx} {ks : List Kd} {ps : List (Nat × V)} {a b c e o : Expr} {es : List Expr} {pos pos' : Pos}
end
end DL

/-! TYM: a list mixed by draws. -/
namespace DL
open PySem PySem.Spec PyProof.Rows L2
section
variable {α : Type} {ea : α → PyData}
end
/-! lists and tuples of a told length -/
section
variable {α β γ τ : Type} {ea : α → PyData} {E : β → PyData} {eg : γ → PyData} {L : SL} {o1 : Bool}
/-! starred displays of parts of many kinds -/
end
end DL

/-! DM2: dicts: keys walked, a display with a tuple for a key, get. -/
namespace DL
open PySem PySem.Spec PyProof.Rows L2

/-! ### the heap but for a lock -/
/-- H1 is H, but that the dict at a is locked in one of them -/
structure Lkd (a : Addr) (H H1 : Hp) : Prop where
  ne : ∀ b, b ≠ a → H1 b = H b
  at_ : ∃ od u, ((∃ l, u = HO.dK l) ∨ (∃ l, u = HO.dT l)) ∧ ((H a = some u ∧ H1 a = some (.frz od u)) ∨ (H a = some (.frz od u) ∧ H1 a = some u))
section
variable {K : PySem.W.Frag} {H H1 : Hp} {O : Addr → Prop} {a : Addr}
theorem Lkd.rd (k : Lkd a H H1) {b : Addr} {w : HO} (hw : ∀ o u, w ≠ .frz o u) (r : Rd H b w) : Rd H1 b w := by
  by_cases e : b = a
  · subst e
    obtain ⟨od, u, hu, h⟩ := k.at_
    have nf : ∀ o v, u ≠ .frz o v := fun o v z => by rcases hu with ⟨l, rfl⟩ | ⟨l, rfl⟩ <;> cases z
    rcases r with r | ⟨o, r⟩
    · rcases h with ⟨h1, h2⟩ | ⟨h1, h2⟩
      · rw [h1] at r; cases r; exact .inr ⟨od, h2⟩
      · rw [h1] at r; exact absurd (Option.some.inj r).symm (hw _ _)
    · rcases h with ⟨h1, h2⟩ | ⟨h1, h2⟩
      · rw [h1] at r; exact absurd (Option.some.inj r) (nf _ _)
      · rw [h1] at r; cases r; exact .inl h2
  · unfold Rd at r ⊢
    rw [k.ne b e]; exact r
theorem Lkd.tup (k : Lkd a H H1) {b : Addr} {xs : List V} (h : H b = some (.tup xs)) : H1 b = some (.tup xs) := by
  by_cases e : b = a
  · subst e
    obtain ⟨od, u, hu, q⟩ := k.at_
    rcases hu with ⟨l, rfl⟩ | ⟨l, rfl⟩ <;> rcases q with ⟨h1, _⟩ | ⟨h1, _⟩ <;> rw [h1] at h <;> cases h
  · rw [k.ne b e]; exact h
theorem Lkd.some (k : Lkd a H H1) {b : Addr} (h : H b ≠ none) : H1 b ≠ none := by
  by_cases e : b = a
  · subst e
    obtain ⟨od, u, _, ⟨_, q⟩ | ⟨_, q⟩⟩ := k.at_ <;> rw [q] <;> simp
  · rw [k.ne b e]; exact h
theorem Lkd.ktup (k : Lkd a H H1) {b : Addr} {xs : List V} (h : SqT K H b xs) : SqT K H1 b xs := h.imp (k.rd fun _ _ z => nomatch z) id
theorem Lkd.dct (k : Lkd a H H1) {b : Addr} {ks : List PyData} {xs : List V} (h : DctAt H b ks xs) : DctAt H1 b ks xs :=
  h.imp (fun ⟨l, r, q⟩ => ⟨l, k.rd (fun _ _ z => nomatch z) r, q⟩) fun ⟨l, r, q⟩ => ⟨l, k.rd (fun _ _ z => nomatch z) r, q⟩
mutual
theorem Lkd.rep (k : Lkd a H H1) : ∀ {d : PyData} {v : V}, Rep K H O d v → Rep K H1 O d v
  | .none, v, h => by simpa only [Rep] using h
  | .bool _, v, h => by simpa only [Rep] using h
  | .int _, v, h => by simpa only [Rep] using h
  | .str _, v, h => by simpa only [Rep] using h
  | .list ds, v, h => by
    simp only [Rep] at h ⊢
    obtain ⟨b, xs, rfl, h1, h2⟩ := h
    exact ⟨b, xs, rfl, h1.imp (fun q => ⟨k.rd (fun _ _ z => nomatch z) q.1, q.2⟩) id, k.repA h2⟩
  | .tuple ds, v, h => by
    simp only [Rep] at h ⊢
    obtain ⟨b, xs, rfl, h1, h2⟩ := h
    exact ⟨b, xs, rfl, h1.imp k.tup (fun q => ⟨k.ktup q.1, q.2⟩), k.repA h2⟩
  | .dict kvs, v, h => by
    simp only [Rep] at h ⊢
    obtain ⟨b, xs, rfl, h1, h2, h3⟩ := h
    exact ⟨b, xs, rfl, h1, k.dct h2, k.repV h3⟩
theorem Lkd.repA (k : Lkd a H H1) : ∀ {ds : List PyData} {xs : List V}, RepA K H O ds xs → RepA K H1 O ds xs
  | [], xs, h => by simpa only [RepA] using h
  | d :: ds, xs, h => by
    simp only [RepA] at h ⊢
    obtain ⟨x, r, e, h1, h2⟩ := h
    exact ⟨x, r, e, k.rep h1, k.repA h2⟩
theorem Lkd.repV (k : Lkd a H H1) : ∀ {ds : List (PyData × PyData)} {xs : List V}, RepV K H O ds xs → RepV K H1 O ds xs
  | [], xs, h => by simpa only [RepV] using h
  | (_, d) :: ds, xs, h => by
    simp only [RepV] at h ⊢
    obtain ⟨x, r, e, h1, h2⟩ := h
    exact ⟨x, r, e, k.rep h1, k.repV h2⟩
end
theorem Lkd.own (k : Lkd a H H1) {kd : Kd} {F : List Addr} {d : PyData} {v : V} (hF : a ∉ F) (h : OwnAt K H O kd F d v) : OwnAt K H1 O kd F d v := by
  have m : ∀ b ∈ F, H1 b = H b := fun b hb => k.ne b fun z => hF (z ▸ hb)
  cases kd with
  | frz => exact ⟨h.1, k.rep h.2⟩
  | l1 =>
    obtain ⟨b, xs, ds, rfl, e1, e2, e3, r⟩ := h
    exact ⟨b, xs, ds, rfl, e1, e2, by rw [m b List.mem_cons_self]; exact e3, k.repA r⟩
  | l2 =>
    obtain ⟨b, bs, dss, rfl, e1, e2, e3, e4, e5⟩ := h
    refine ⟨b, bs, dss, rfl, e1, e2, by rw [m b List.mem_cons_self]; exact e3, e4, fun i c ds h1 h2 => ?_⟩
    obtain ⟨xs, h3, h4⟩ := e5 i c ds h1 h2
    exact ⟨xs, by rw [m c (List.mem_cons_of_mem _ (List.mem_of_getElem? h1))]; exact h3, k.repA h4⟩
  | dk =>
    obtain ⟨b, kvs, l, rfl, e1, e2, e3, e4, r⟩ := h
    exact ⟨b, kvs, l, rfl, e1, e2, by rw [m b List.mem_cons_self]; exact e3, e4, k.repV r⟩
  | dt =>
    obtain ⟨b, kvs, l, rfl, e1, e2, e3, e4, r⟩ := h
    exact ⟨b, kvs, l, rfl, e1, e2, by rw [m b List.mem_cons_self]; exact e3, e4, k.repV r⟩
  | src =>
    obtain ⟨b, c, cells, left, mixed, turn, rfl, e1, e2, e3, e4⟩ := h
    exact ⟨b, c, cells, left, mixed, turn, rfl, e1, e2, by rw [m b List.mem_cons_self]; exact e3, by rw [m c (by simp)]; exact e4⟩
  | pt =>
    obtain ⟨b, xs, ds, o, rfl, rfl, rfl, e1, e2, e3, r⟩ := h
    refine ⟨b, xs, ds, o, rfl, rfl, rfl, ?_, e2, e3, k.repA r⟩
    have hb : b ≠ a := by
      rintro rfl
      obtain ⟨od, u, hu, q⟩ := k.at_
      rcases q with ⟨q, _⟩ | ⟨q, _⟩
      · rw [q] at e1; rcases hu with ⟨l, rfl⟩ | ⟨l, rfl⟩ <;> cases e1
      · rw [q] at e1; rcases hu with ⟨l, rfl⟩ | ⟨l, rfl⟩ <;> cases e1
    rw [k.ne b hb]; exact e1
theorem Lkd.ei (k : Lkd a H H1) {ks : List Kd} {ps : List (Nat × V)} {G : Addr → Prop} {F : List (List Addr)} {σ : L2.St} {env : Ev} (hF : a ∉ F.flatten) (I : EI K ks ps G F σ H env) : EI K ks ps G F σ H1 env :=
  ⟨I.lF, I.lE, I.lS, I.nd, fun b hb => ⟨k.some (I.tr b hb).1, (I.tr b hb).2⟩, fun b hb => k.some (I.gt b hb), fun i d kd h1 h2 => by
    obtain ⟨v, Fi, e1, e2, o⟩ := I.sl i d kd h1 h2
    exact ⟨v, Fi, e1, e2, k.own (fun z => hF (mem_flat.mpr ⟨i, Fi, e2, z⟩)) o⟩, I.pn, I.fz⟩
end

/-! ### for k in x, x a dict that is not changed meanwhile -/
section
variable {rk : Kd} {X : Cx} {ks : List Kd} {ps : List (Nat × V)} {a b c e o : Expr} {es : List Expr} {pos pos' : Pos}
def mKeys (i : Nat) : M (List PyData) := fun e => match dctAt i e with
  | none => none
  | some kvs => some (kvs.map (·.1), e)
def FrzAt (i : Nat) (σ : L2.St) (H : Hp) : Prop := ∃ a od u, σ[i]? = some (some (.ref a)) ∧ H a = some (.frz od u)
theorem rep_kV {K : PySem.W.Frag} {H : Hp} {O : Addr → Prop} (k : L2.Key) : Rep K H O (kD k) (kV k) := by
  cases k <;> simp only [kD, kV, Rep]
theorem repA_kV {K : PySem.W.Frag} {H : Hp} {O : Addr → Prop} : ∀ k : List L2.Key, RepA K H O (k.map kD) (k.map kV)
  | [] => .nil
  | a :: k => .cons (rep_kV a) (repA_kV k)
theorem pi_keysF {tg : Expr} {i : Nat} {x : Str} {p : Pos} (hN : X.N[i]? = some x) (hk : ks[i]? = some .frz) (hv : Vis X.env.scope x)
    (hd : (x == ("__debug__" : Str)) = false) (hcd : (x == ("__classdict__" : Str)) = false) : PI X tg (.Name x p) (fun σ H R => FrzAt i σ H ∧ tI X.K ks ps (mKeys i) σ H R) :=
  PI.imp (pi_keys (pe_var hN hv hd hcd)) fun σ H R q => by
    obtain ⟨⟨ad, od, u, hσ, hH⟩, G, F, env, ds, env', I, hm, q⟩ := q
    unfold mKeys at hm
    split at hm
    · cases hm
    · rename_i kvs g1
      cases hm
      obtain ⟨v, hσ', rv⟩ := I.at_frz (dctAt_some g1) hk
      rw [hσ] at hσ'
      cases hσ'
      simp only [Rep] at rv
      obtain ⟨b, xs, eb, _, hD, _⟩ := rv
      cases eb
      refine ⟨_, hσ, ad, od, rfl, ?_⟩
      rcases hD with ⟨l, hl, h1, _⟩ | ⟨l, hl, h1, _⟩
      · have hl' : H ad = some (.frz od (.dK l)) := by
          rcases hl with r | ⟨o', r⟩
          · rw [hH] at r; cases r
          · rw [hH] at r; cases r; exact hH
        refine .inl ⟨l, hl', q _ F H (fun H => H ad = some (.frz od (.dK l))) _ .refl I (by rw [h1, List.length_map]; exact walk_keys) (fun F2 H2 S2 => S2.frz _ _ _ hl') fun G2 j F2 H2 x H3 d hd _ S2 _ y => ?_⟩
        obtain ⟨rfl, k, v', e1, rfl⟩ := y
        rw [h1, List.getElem?_map, e1] at hd
        cases hd
        exact ⟨.refl _, rep_kV k⟩
      · have hl' : H ad = some (.frz od (.dT l)) := by
          rcases hl with r | ⟨o', r⟩
          · rw [hH] at r; cases r
          · rw [hH] at r; cases r; exact hH
        refine .inr ⟨l, hl', q _ F H (fun H => H ad = some (.frz od (.dT l))) _ .refl I (by rw [h1, List.length_map]; exact walk_keysT) (fun F2 H2 S2 => S2.frz _ _ _ hl') fun G2 j F2 H2 x H3 d hd _ S2 _ y => ?_⟩
        obtain ⟨rfl, k, v', t, e1, rfl, ht⟩ := y
        rw [h1, List.getElem?_map, e1] at hd
        cases hd
        refine ⟨.refl _, ?_⟩
        show Rep X.K _ _ (.tuple (k.map kD)) _
        simp only [Rep]
        exact ⟨t, _, rfl, .of ht, repA_kV k⟩
theorem Stp.unlk {ad : Addr} {od : Obj} {u : HO} {F F' : List (List Addr)} {H H' : Hp} (nf : ∀ o v, u ≠ .frz o v) (hu : H ad = some u) (S : Stp F (upd H ad (.frz od u)) F' H') : Stp F H F' (upd H' ad u) := by
  refine ⟨fun b w hb hn => ?_, fun b hb => ?_, fun b xs hb => ?_, fun b o w hb => ?_, fun b hb => ?_⟩
  · by_cases e : b = ad
    · subst e; rw [hu] at hb; cases hb; exact upd_same
    · rw [upd_ne e]; exact S.keep b w (by rw [upd_ne e]; exact hb) hn
  · by_cases e : b = ad
    · subst e; rw [upd_same]; simp
    · rw [upd_ne e]; exact S.dom b (by rw [upd_ne e]; exact hb)
  · by_cases e : b = ad
    · subst e; rw [hu] at hb; cases hb; exact upd_same
    · rw [upd_ne e]; exact S.tup b xs (by rw [upd_ne e]; exact hb)
  · by_cases e : b = ad
    · subst e; rw [hu] at hb; exact absurd (Option.some.inj hb) (nf _ _)
    · rw [upd_ne e]; exact S.frz b o w (by rw [upd_ne e]; exact hb)
  · rcases S.new b hb with h | h
    · exact .inl h
    · by_cases e : b = ad
      · subst e; rw [upd_same] at h; cases h
      · rw [upd_ne e] at h; exact .inr h
/-! ### {k: v}, k a tuple -/
/-- x.get(k, y) of an own dict -/
def mDGet2 (kd : Kd) (i : Nat) (m n : M PyData) : M PyData := fun e => match dctAt i e with
  | none => none
  | some _ => match m e with
    | none => none
    | some (k, e1) => match n e1 with
      | none => none
      | some (z, e2) => match dctAt i e2 with
        | none => none
        | some kvs => if kOk kd k = true then some ((valD kvs k).getD z, e2) else none
theorem ed_dGet2 {i : Nat} {kd : Kd} {x : Str} {m n : M PyData} {p apos : Pos} {f : Expr} (hu : X.A.units + 1 < cLine) (hN : X.N[i]? = some x) (hk : ks[i]? = some kd) (he : ED X ks ps e m) (hf : ED X ks ps f n) (M : M2 X (.Name x p) "get" apos e f pos) (hv : Vis X.env.scope x := by first | exact Or.inl rfl | exact Or.inr (Or.inl rfl) | exact Or.inr (Or.inr rfl))
    (hd : (x == ("__debug__" : Str)) = false := by decide) (hcd : (x == ("__classdict__" : Str)) = false := by decide) : ED X ks ps (.Call (.Attribute (.Name x p) "get" apos) [e, f] [] pos) (mDGet2 kd i m n) :=
  PE.imp (pe_dget2 hu (pe_var hN hv hd hcd) he hf M) fun σ H Q q => by
    obtain ⟨G, F, env, d, env', I, hm, q⟩ := q
    unfold mDGet2 at hm
    split at hm
    · cases hm
    · rename_i kvs0 g0
      split at hm
      · cases hm
      · rename_i k e1 g1
        split at hm
        · cases hm
        · rename_i z e2 g2
          split at hm
          · cases hm
          · rename_i kvs g3
            split at hm
            · rename_i ok
              cases hm
              obtain ⟨w, Fi, hσ, hF, ow⟩ := I.sl i _ _ (dctAt_some g0) hk
              have hD : ∃ ad, w = .ref ad ∧ IsD H ad := by
                cases kd with
                | dk => obtain ⟨ad, _, l, _, _, rfl, e6, _⟩ := ow; exact ⟨ad, rfl, .inl ⟨l, .inl e6⟩⟩
                | dt => obtain ⟨ad, _, l, _, _, rfl, e6, _⟩ := ow; exact ⟨ad, rfl, .inr ⟨l, .inl e6⟩⟩
                | _ => cases ok
              obtain ⟨ad, rfl, hD⟩ := hD
              refine ⟨_, hσ, ad, rfl, hD, G, F, env, k, _, I, g1, fun y F1 H1 S1 I1 r1 => ⟨G, F1, _, z, _, I1, g2, fun u F2 H2 S2 I2 r2 => ?_⟩⟩
              obtain ⟨ad', o, hσ', dg, hv⟩ := I2.dget g3 hk ok (Rep.kp S2.kp r1)
              rw [hσ] at hσ'
              cases hσ'
              refine ⟨o, dg, q _ F2 H2 (S1.trans S2) I2 ?_⟩
              rcases hv with ⟨h1, h2⟩ | ⟨d', v, h1, h2, hr⟩
              · rw [h1, h2]; exact r2
              · rw [h1, h2]; exact hr
            · cases hm
/-- x[k], x a dict that is only read -/
def mFGet (i : Nat) (m : M PyData) : M PyData := fun e => match dctAt i e with
  | none => none
  | some _ => match m e with
    | none => none
    | some (k, e1) => match dctAt i e1 with
      | none => none
      | some kvs => if (isK k || isT k) = true then (match valD kvs k with
        | some d => some (d, e1)
        | none => none) else none
theorem ed_fGet {i : Nat} {x : Str} {m : M PyData} {p : Pos} (hu : X.A.units + 1 < cLine) (hN : X.N[i]? = some x) (hk : ks[i]? = some .frz) (he : ED X ks ps e m) (hs : NoSl e := by intros; rfl) (hv : Vis X.env.scope x := by first | exact Or.inl rfl | exact Or.inr (Or.inl rfl) | exact Or.inr (Or.inr rfl))
    (hd : (x == ("__debug__" : Str)) = false := by decide) (hcd : (x == ("__classdict__" : Str)) = false := by decide) : ED X ks ps (.Subscript (.Name x p) e pos) (mFGet i m) :=
  PE.imp (pe_dget hu (pe_var hN hv hd hcd) he hs) fun σ H Q q => by
    obtain ⟨G, F, env, d, env', I, hm, q⟩ := q
    unfold mFGet at hm
    split at hm
    · cases hm
    · rename_i kvs0 g0
      split at hm
      · cases hm
      · rename_i k e1 g1
        split at hm
        · cases hm
        · rename_i kvs g2
          split at hm
          · rename_i ok
            split at hm
            · rename_i dv g3
              cases hm
              obtain ⟨w, hσ, _⟩ := I.at_frz (dctAt_some g0) hk
              refine ⟨w, hσ, G, F, env, k, _, I, g1, fun y F1 H1 S1 I1 r1 => ?_⟩
              obtain ⟨w', hσ', rv⟩ := I1.at_frz (dctAt_some g2) hk
              rw [hσ] at hσ'
              cases hσ'
              simp only [Rep] at rv
              obtain ⟨ad, xs, rfl, _, hD, rv⟩ := rv
              rcases hD with ⟨l, hl, h1, h2⟩ | ⟨l, hl, h1, h2⟩
              · -- keys ints and texts
                have hkk : ∃ κ, k = kD κ := by
                  unfold valD at g3
                  obtain ⟨q0, hq, _⟩ := Option.map_eq_some_iff.mp g3
                  have hm := List.mem_of_find?_eq_some hq
                  have hp := List.find?_some hq
                  have : q0.1 ∈ l.map (fun p => kD p.1) := h1 ▸ List.mem_map_of_mem hm
                  obtain ⟨p0, _, hp0⟩ := List.mem_map.mp this
                  rw [← hp0] at hp
                  rw [Bool.or_eq_true] at ok
                  rcases ok with ok | ok
                  · exact isK_ex ok
                  · obtain ⟨κ, rfl, _⟩ := isT_ex ok
                    exfalso
                    have : keq (kD p0.1) (tpD κ) = false := by cases p0.1 <;> rfl
                    rw [this] at hp; cases hp
                obtain ⟨κ, rfl⟩ := hkk
                have ey := rep_kD r1
                subst ey
                rcases val_rel keq_k κ h1 (h2 ▸ rv) with ⟨z, _⟩ | ⟨d', v, z, zv, hr⟩
                · rw [g3] at z; cases z
                · rw [g3] at z; cases z
                  exact ⟨ad, v, rfl, .inl ⟨l, κ, hl, rfl, zv.symm⟩, q v F1 H1 S1 I1 hr⟩
              · have hkk : ∃ κ, k = tpD κ ∧ kt k = false := by
                  unfold valD at g3
                  obtain ⟨q0, hq, _⟩ := Option.map_eq_some_iff.mp g3
                  have hm := List.mem_of_find?_eq_some hq
                  have hp := List.find?_some hq
                  have : q0.1 ∈ l.map (fun p => tpD p.1) := h1 ▸ List.mem_map_of_mem hm
                  obtain ⟨p0, _, hp0⟩ := List.mem_map.mp this
                  rw [← hp0] at hp
                  rw [Bool.or_eq_true] at ok
                  rcases ok with ok | ok
                  · obtain ⟨κ, rfl⟩ := isK_ex ok
                    exfalso
                    have : keq (tpD p0.1) (kD κ) = false := by cases κ <;> rfl
                    rw [this] at hp; cases hp
                  · exact isT_ex ok
                obtain ⟨κ, rfl, hkt⟩ := hkk
                obtain ⟨b, rfl, hb⟩ := rep_tpD hkt r1
                rcases val_rel keq_t κ h1 (h2 ▸ rv) with ⟨z, _⟩ | ⟨d', v, z, zv, hr⟩
                · rw [g3] at z; cases z
                · rw [g3] at z; cases z
                  exact ⟨ad, v, rfl, .inr ⟨l, κ, b, hl, rfl, hb, zv.symm⟩, q v F1 H1 S1 I1 hr⟩
            · cases hm
          · cases hm
end
end DL

/-! DM3: sorted of a tuple. -/
namespace PySem.W
open PySem PyProof.Rows
section
variable {prog : Program} {w : World} {A : Around} {E : Value → Shared → Prop} {s : Shared}
theorem collect_tupleX {l : Addr} {vs : List Value} {Q : List Value → Shared → Prop} (hl : s.heap.IsTuple l vs.toArray)
    (h : Q vs { s with heap := (s.heap.push (seqObj "list" #[] 0)).update s.heap.objs.size (Obj.mapSeq (· ++ vs.toArray)) }) (hsz : vs.length ≤ sizeLine) :
    wpAny (model prog w) A (collect (.ref l)) Q E s := by
  obtain ⟨o, ho, hc, n, hd⟩ := id hl
  unfold collect
  refine wpAny_bind (wpAny_runValue (codeAny_builtin entry_proto_collect' ?_))
  show wpAny _ _ (do again (.builtin "list.__iadd__" ⟨[← newList [], .ref l], []⟩)) _ _ s
  refine wpAny_bind (wpAny_newList (wpAny_pure ⟨Code.quiet_builtin _ (by decide +kernel), codeAny_builtin entry_list_iadd' ?_⟩))
  show wpAny _ _ (Builtin.List.listExtendWith (.ref s.heap.objs.size) (.ref l) (.ref s.heap.objs.size)) _ _ { s with heap := s.heap.push (seqObj "list" #[] 0) }
  unfold Builtin.List.listExtendWith
  have ho' : (s.heap.push (seqObj "list" #[] 0)).get? l = some o := Heap.get?_push_of_some _ ho
  refine wpAny_bind (wpAny_typeOf (T := "tuple") ⟨o, ho', hc⟩ ?_)
  have ht : (Value.type "tuple" == Value.type "tuple") = true := by rfl
  rw [if_pos (by rw [ht]; simp)]
  refine wpAny_bind (listItems_at ho' hd ?_)
  refine wpAny_bind (listItems_at (xs := #[]) (n := 0) (Heap.get?_push_size _ rfl) rfl ?_)
  rw [if_neg (by simp)]
  refine wpAny_bind (listUpdate_at (xs := #[]) (n := 0) (Heap.get?_push_size _ rfl) rfl ?_ (Nat.zero_le _) (by show (#[] ++ vs.toArray).size ≤ sizeLine + 1; simp only [Array.size_append, List.size_toArray, List.length_nil]; omega))
  refine wpAny_pure ?_
  show wpAny (model prog w) A (do
      let o ← load s.heap.objs.size
      match o.data with
      | .seq xs _ => pure xs.toList
      | _ => unsupported "internal:collect") Q E { s with heap := (s.heap.push (seqObj "list" #[] 0)).update s.heap.objs.size (Obj.mapSeq (· ++ vs.toArray)) }
  refine wpAny_bind (wpAny_load (get?_update_seq (Heap.get?_push_size _ rfl) _) ?_)
  show wpAny _ _ (pure ((#[] : Array Value) ++ vs.toArray).toList) Q E _
  rw [show ((#[] : Array Value) ++ vs.toArray).toList = vs by simp]
  exact wpAny_pure h
theorem sorted_of_sortX {l : Addr} {vs : List Value} {kw : List (Str × Value)} {Q : Value → Shared → Prop} (hl : s.heap.IsTuple l vs.toArray) (hL : vs.length ≤ sizeLine) (ha1 : argsOk "sorted" ⟨[.ref l], kw⟩) (ha2 : ∀ x, argsOk "list.sort" ⟨[.ref x], kw⟩)
    (body : ∀ E' : Value → Shared → Prop, wpAny (model prog w) A.in1.in1 (Builtin.«list.sort» ⟨[.ref (s.heap.objs.size + 1)], kw⟩) (fun f s' => f = .done (.ret .none) ∧ Q (.ref (s.heap.objs.size + 1)) s') E' { s with heap := copyHeap s.heap vs }) :
    wpAny (model prog w) A (call (.builtin "sorted") [.ref l] kw) Q E s := by
  refine call_function_entry_kw kind_sorted plain_sorted entry_sorted ha1 ?_
  unfold Builtin.«sorted»
  refine wpAny_bind (m := checkCount "sorted" 1 1 _) (wpAny_pure ?_)
  refine wpAny_bind (collect_tupleX hl ?_ hL)
  refine wpAny_bind (wpAny_newList ?_ hL)
  have hsz : ((s.heap.push (seqObj "list" #[] 0)).update s.heap.objs.size (Obj.mapSeq (· ++ vs.toArray))).objs.size = s.heap.objs.size + 1 := by
    rw [Heap.size_update, size_push']
  show wpAny _ _ _ _ _ { s with heap := copyHeap s.heap vs }
  rw [hsz]
  refine wpAny_bind (wpAny_holding (wpAny_call_entry_kw slot_list_sort ⟨_, copyHeap_at s.heap vs, rfl⟩ entry_list_sort ?body (ha2 _)))
  case body =>
    show wpAny (model prog w) A.in1.in1 (Builtin.«list.sort» ⟨[.ref (s.heap.objs.size + 1)], kw⟩) _ _ _
    refine wpAny_mono (body _) (fun f s' hf => ?_) fun _ _ e => e
    obtain ⟨rfl, hq⟩ := hf
    exact ⟨_, rfl, wpAny_pure ⟨_, rfl, hq⟩⟩
theorem sorted_valsX {κ : PyProof.Rows.KeyKind} {l : Addr} {vs : List Value} {Q : Value → Shared → Prop} (hl : s.heap.IsTuple l vs.toArray) (S : SortsAt prog w A.in1.in1 { s with heap := sortingHeap (copyHeap s.heap vs) (s.heap.objs.size + 1) vs } κ vs) (hL : vs.length ≤ sizeLine)
    (h : Q (.ref (s.heap.objs.size + 1)) { s with heap := sortedAll s.heap vs (sortVals κ false vs vs).toArray }) : wpAny (model prog w) A (call (.builtin "sorted") [.ref l]) Q E s :=
  sorted_of_sortX hl hL (args_sorted1 _) (fun _ => args_list_sort _) fun _ => list_sort_vals (s := { s with heap := copyHeap s.heap vs }) (copyHeap_at s.heap vs) S hL ⟨rfl, h⟩
end
end PySem.W
namespace DL
open PySem PySem.Spec PyProof.Rows L2
section
open PySem.W
variable {prog : Program} {w : World} {A : Around} {s : Shared} {E : Value → Shared → Prop}
theorem sorted_dataX {β : Type} {R : Value → β → Prop} {enc : β → PyData} {vs : List Value} {bs : List β} {l : Addr} {Q : Value → Shared → Prop} (hl : s.heap.IsTuple l vs.toArray) (e : EachIs R vs bs) (er : EachIs (fun v b => ∃ as, Reads s.heap v (enc b) as) vs bs) (hal : AllAlike (bs.map enc)) (hk : SortE (bs.map enc)) (hL : bs.length ≤ sizeLine)
    (hu : ∀ b, b ∈ bs → A.units + 2 + (enc b).depth < cLine) (h : ∀ out, out.length = bs.length → EachIs R out (bs.mergeSort (dataLe false enc)) → Q (.ref (s.heap.objs.size + 1)) { s with heap := sortedAll s.heap vs (List.toArray out) }) :
    wpAny (model prog w) A (call (.builtin "sorted") [.ref l]) Q E s := by
  rcases hk with hk | ⟨h1, hn⟩
  · have er' : EachIs (fun v b => ∃ as, Reads (sortingHeap (copyHeap s.heap vs) (s.heap.objs.size + 1) vs) v (enc b) as) vs bs := er.mono fun _ _ ⟨as, r⟩ => ⟨as, PyProof.Rows.Reads.keeps (fun _ _ => sorting_copy_old) r⟩
    exact sorted_valsX hl (SortsAt.data (s := { s with heap := sortingHeap (copyHeap s.heap vs) (s.heap.objs.size + 1) vs }) (each_map (R := fun v d => ∃ as, Reads (sortingHeap (copyHeap s.heap vs) (s.heap.objs.size + 1) vs) v d as) enc er') hal hk (bound_map hu)) (by rw [e.length]; exact hL)
      (h _ (by rw [sortVals_length false rfl]; exact e.length) (sortVals_data false e er' hal))
  · have er' : EachIs (fun v b => ∃ as, Reads (sortingHeap (copyHeap s.heap vs) (s.heap.objs.size + 1) vs) v (enc b) as) vs bs := er.mono fun _ _ ⟨as, r⟩ => ⟨as, PyProof.Rows.Reads.keeps (fun _ _ => sorting_copy_old) r⟩
    exact sorted_valsX hl (sortsAt_one (s := { s with heap := sortingHeap (copyHeap s.heap vs) (s.heap.objs.size + 1) vs }) (each_map (R := fun v d => ∃ as, Reads (sortingHeap (copyHeap s.heap vs) (s.heap.objs.size + 1) vs) v d as) enc er') hal hn (by rw [e.length]; simpa using h1) (bound_map hu)) (by rw [e.length]; exact hL)
      (h _ (by rw [sortVals_length false rfl]; exact e.length) (sortVals_data false e er' hal))
end
/-- sorted of a tuple -/
def sortedX : List PyData → Option PyData
  | [.tuple ds] => if alikeB ds && sortEB ds && layA ds && decide (ds.length ≤ 1000000) && decide (PyData.depthAll ds ≤ 60) then some (.list (sortL ds)) else none
  | _ => none
section
variable {X : Cx}
theorem f_sortedT0 (hu : X.A.units + 64 < cLine) : FnV X (.builtin "sorted") sortedX := by
  intro pins s σ H xs us Q I r q
  obtain ⟨O, ds0, d, fr, r1, e, q⟩ := q
  unfold sortedX at e
  split at e
  · rename_i ds
    split at e
    · rename_i hc
      cases e
      simp only [Bool.and_eq_true, decide_eq_true_eq] at hc
      obtain ⟨⟨⟨⟨c1, c2⟩, c3⟩, c4⟩, c5⟩ := hc
      obtain ⟨x, rfl, r2⟩ := repA1 r1
      simp only [Rep] at r2
      obtain ⟨a, vs, rfl, t1, a1⟩ := r2
      obtain ⟨its, rv, hl, hz⟩ := I.tuple t1.sq
      rw [Vals.ref1 r]
      have hlen := a1.length
      have E := each_zip a1 rv
      have em : (vs.zip ds).map (fun p : V × PyData => p.2) = ds := zip_snd hlen.symm
      refine sorted_dataX (bs := vs.zip ds) (enc := fun p : V × PyData => p.2) (R := fun u (p : V × PyData) => (RelV p.1 u ∧ Rep X.K H O p.2 p.1)) (show s.heap.IsTuple a its.toArray from hl) E ?_ (by rw [em]; exact alikeB_ok c1) (by rw [em]; exact sortE_ok c2) (by rw [List.length_zip, sizeLine_eq]; omega) ?_ fun out h1 h2 => ?_
      · have hmem : ∀ {us : List Value} {ps : List (V × PyData)}, PySem.W.EachIs (fun u (p : V × PyData) => RelV p.1 u ∧ Rep X.K H O p.2 p.1) us ps → (∀ p ∈ ps, layD p.2 = true) → PySem.W.EachIs (fun u (p : V × PyData) => ∃ as, Reads s.heap u p.2 as) us ps := by
          intro us ps h
          induction h with
          | nil => intro _; exact .nil
          | cons h t ih =>
            intro hp
            obtain ⟨as, q1, _⟩ := Rep.reads I (hp _ List.mem_cons_self) h.2 h.1
            exact .cons ⟨as, q1⟩ (ih fun p m => hp p (List.mem_cons_of_mem _ m))
        exact hmem E fun p m => layA_get c3 (List.of_mem_zip m).2
      · intro p m
        have := depA_get c5 (List.of_mem_zip m).2
        show X.A.units + 2 + p.2.depth < cLine
        omega
      · obtain ⟨ep, he'⟩ := PyProof.Rows.sortedAll_at s.heap its out.toArray
        have hv := each_vals (fun u p h => h.1) h2
        have hr := each_rep (fun u p h => h.2) h2
        have e2 : ((vs.zip ds).mergeSort (PySem.W.dataLe false fun p : V × PyData => p.2)).map (·.2) = sortL ds := by
          unfold sortL
          have z := List.map_mergeSort (r := PySem.W.dataLe false fun p : V × PyData => p.2) (s := PySem.W.dataLe false id) (f := fun p : V × PyData => p.2) (l := vs.zip ds) fun _ _ _ _ => rfl
          rw [em] at z
          exact z
        rw [e2] at hr
        generalize hW : ((vs.zip ds).mergeSort (PySem.W.dataLe false fun p : V × PyData => p.2)).map (·.1) = ws at hv hr
        have hwl : ws.length ≤ sizeLine := by
          rw [← hr.length, sizeLine_eq]
          unfold sortL
          rw [List.length_mergeSort]
          omega
        have hp := I.hok.fresh (Nat.le_succ s.heap.objs.size)
        have sm := same_upd (o := .lst ws) hp
        refine ⟨.ref _, upd H (s.heap.objs.size + 1) (.lst ws), I.laid (t' := s.toks) (fun _ _ => PyProof.Rows.sortedAll_old) (Nat.le_succ _) ⟨hwl, out, ep, hv, he'⟩, rfl, q _ _ sm ?_⟩
        simp only [Rep]
        exact ⟨_, ws, rfl, LstAt.rd (.inl upd_same) (fr _ hp), RepA.kp (Same.kp sm) hr⟩
    · cases e
  · cases e
end
/-! ### a slot that is only read from here on -/
section
variable {rk : Kd} {X : Cx} {ks : List Kd} {ps : List (Nat × V)}
end
end DL

/-! TYN: dicts: keys walked, get, a display of one pair. -/
namespace DL
open PySem PySem.Spec PyProof.Rows L2
section
variable {α β γ τ : Type} {ea : α → PyData} {eb : β → PyData} {L : SL}
def fGetT (d k : PyData) : Option PyData := match d with
  | .dict kvs => if (isK k || isT k) = true then valD kvs k else none
  | _ => none
def dGet2T (kd : Kd) (d k z : PyData) : Option PyData := match d with
  | .dict kvs => if kOk kd k = true then some ((valD kvs k).getD z) else none
  | _ => none
def keysT (x : PyData → Option α) (d : PyData) : Option (List α) := match d with
  | .dict kvs => cvLs x (kvs.map (·.1))
  | _ => none
theorem x_fGet {i : Nat} {d : PyData} {m : M PyData} {t : Option α} (hi : L[i]? = some (some (some (eA d)))) (h : XP ea m L t) : XP eA (mFGet i m) L (t.bind fun k => fGetT d (ea k)) := fun e he v hv => by
  obtain ⟨k, h1, h2⟩ := Option.bind_eq_some_iff.mp hv
  obtain ⟨e', g1, g2⟩ := h e he k h1
  unfold fGetT at h2
  split at h2
  · split at h2
    · rename_i ok
      exact ⟨e', by unfold mFGet; rw [dctAt_of (he.at_ _ _ hi)]; dsimp only; rw [g1]; dsimp only; rw [dctAt_of (g2.at_ _ _ hi)]; dsimp only; rw [if_pos ok, h2]; rfl, g2⟩
    · cases h2
  · cases h2
theorem x_dGet2 {kd : Kd} {i : Nat} {d : PyData} {m n : M PyData} {t : Option α} {t2 : Option β} (hi : L[i]? = some (some (some (eA d)))) (h : XP ea m L t) (h2 : XP eb n L t2) : XP eA (mDGet2 kd i m n) L (t.bind fun k => t2.bind fun z => dGet2T kd d (ea k) (eb z)) := fun e he v hv => by
  obtain ⟨k, h1, hv⟩ := Option.bind_eq_some_iff.mp hv
  obtain ⟨z, h3, hv⟩ := Option.bind_eq_some_iff.mp hv
  obtain ⟨e1, g1, g2⟩ := h e he k h1
  obtain ⟨e2, g3, g4⟩ := h2 e1 g2 z h3
  unfold dGet2T at hv
  split at hv
  · split at hv
    · rename_i ok
      cases hv
      exact ⟨e2, by unfold mDGet2; rw [dctAt_of (he.at_ _ _ hi)]; dsimp only; rw [g1]; dsimp only; rw [g3]; dsimp only; rw [dctAt_of (g4.at_ _ _ hi)]; dsimp only; rw [if_pos ok]; rfl, g4⟩
    · cases hv
  · cases hv
theorem xi_keys {i : Nat} {d : PyData} {x : PyData → Option α} (hx : Dc x ea) (hi : L[i]? = some (some (some (eA d)))) : XI ea (mKeys i) L (keysT x d) := fun e he v hv => by
  unfold keysT at hv
  split at hv
  · rename_i kvs
    exact ⟨e, by unfold mKeys; rw [dctAt_of (he.at_ _ _ hi)]; dsimp only; rw [cvLs_x hx _ _ hv], he⟩
  · cases hv
end
end DL

/-! MTA: sums over trees, plain. A net: roads (a, b, weight); what is put together is told by a labelling. -/
namespace DL
/-- b's class into a's -/
def mg (h : Nat → Nat) (a b : Nat) : Nat → Nat := fun x => if h x = h b then h a else h x
def Sim (h h' : Nat → Nat) : Prop := ∀ x y, h x = h y ↔ h' x = h' y
theorem Sim.refl (h : Nat → Nat) : Sim h h := fun _ _ => Iff.rfl
/-- all pairs, with weights -/
def pairs (n : Nat) : List (Nat × Nat) := (List.range n).flatMap fun b => (List.range b).map fun a => (a, b)
/-! ### tables -/
end DL

/-! MTB: minors of tables of up to four lines: what a fraction-free elimination keeps. -/
namespace DL
abbrev Tb := Nat → Nat → Int
end DL

/-! MTC: tables by roads; trees one by one. -/
namespace DL
end DL

/-! MTD: lots without a ring, told by labels; two ends. -/
namespace DL
theorem Sim.symm {h g : Nat → Nat} (S : Sim h g) : Sim g h := fun x y => (S x y).symm
theorem Sim.trans {h g k : Nat → Nat} (S : Sim h g) (T : Sim g k) : Sim h k := fun x y => (S x y).trans (T x y)
end DL

/-! MDA: determinants of any size: columns, rows, exchange of both. -/
namespace DL
namespace Dt
/-! ### columns -/
/-! ### exchange of rows and columns -/
def tr (M : Tb) : Tb := fun x y => M y x
/-! ### rows -/
end Dt
end DL

/-! MDB: what a fraction-free elimination keeps, at any size; trees and determinants, at any size. -/
namespace DL
namespace Dt
end Dt
end DL

/-! MDI: a determinant by lots of columns, a row at a time. -/
namespace DL
namespace Dt
def insN : List Nat → Nat → List Nat
  | [], c => [c]
  | a :: r, c => if c < a then c :: a :: r else a :: insN r c
theorem ins_perm : ∀ {S : List Nat} {c : Nat}, (insN S c).Perm (c :: S)
  | [], c => .refl _
  | a :: r, c => by
    unfold insN
    split
    · exact .refl _
    · exact ((ins_perm (S := r) (c := c)).cons a).trans (List.Perm.swap c a r)
theorem mem_ins {S : List Nat} {c x : Nat} : x ∈ insN S c ↔ x = c ∨ x ∈ S := by rw [ins_perm.mem_iff, List.mem_cons]
theorem ins_sorted : ∀ {S : List Nat} {c : Nat}, S.Pairwise (· < ·) → c ∉ S → (insN S c).Pairwise (· < ·)
  | [], c, _, _ => List.pairwise_singleton _ _
  | a :: r, c, h, hc => by
    obtain ⟨h1, h2⟩ := List.pairwise_cons.mp h
    unfold insN
    split
    · rename_i q
      refine List.pairwise_cons.mpr ⟨fun x hx => ?_, h⟩
      rcases List.mem_cons.mp hx with rfl | hx
      · exact q
      · have := h1 x hx; omega
    · rename_i q
      have hne : c ≠ a := fun z => hc (z ▸ List.mem_cons_self)
      refine List.pairwise_cons.mpr ⟨fun x hx => ?_, ins_sorted h2 fun z => hc (List.mem_cons_of_mem _ z)⟩
      rcases mem_ins.mp hx with rfl | hx
      · omega
      · exact h1 x hx
structure Lot (n k : Nat) (S : List Nat) : Prop where
  so : S.Pairwise (· < ·)
  le : S.length = k
  lt : ∀ x ∈ S, x < n
theorem Lot.ins {n k c : Nat} {S : List Nat} (h : Lot n k S) (hc : c < n) (hn : c ∉ S) : Lot n (k + 1) (insN S c) :=
  ⟨ins_sorted h.so hn, by rw [ins_perm.length_eq, List.length_cons, h.le], fun x hx => by
    rcases mem_ins.mp hx with rfl | hx
    · exact hc
    · exact h.lt x hx⟩
def inS (S : List Nat) (c : Nat) : Bool := decide (c ∈ S)
def cl (n : Nat) (S : List Nat) : List Nat := (List.range n).filter fun c => !inS S c
end Dt
end DL

/-! TYO: dicts told by lists; keys lists of numbers, values ints. -/
namespace DL
open PySem PySem.Spec PyProof.Rows L2 Dt
def kI (S : List Nat) : List Int := S.map fun x : Nat => (x : Int)
abbrev DLs := List (List Nat × Int)
def lk (L : DLs) (k : List Nat) : Int := ((L.find? fun p => decide (p.1 = k)).map (·.2)).getD 0
def pt (L : DLs) (k : List Nat) (v : Int) : DLs := if (L.any fun p => decide (p.1 = k)) = true then L.map (fun p => if p.1 = k then (p.1, v) else p) else L ++ [(k, v)]
end DL

/-! TYK: sorted of tuples of ints, lots in order, lists with one place left out. -/
namespace DL
open PySem PySem.Spec PyProof.Rows L2
end DL

/-! DM4: sorted of tuples of which the first is empty. -/
namespace PySem.SeqAt
open AutoSeq1 (wpAny_loadPart')
open MeetsSeq MeetsSeq2 MeetsSeq3 SeqRoads2
section
variable {A : Around} {s : Shared}
theorem call_tuple_ltX {prog : Program} {w : World} {E : Value → Shared → Prop} {Q : Value → Shared → Prop} {l b : Addr} {items items2 : Array Value} {e r : Nat → Bool} (hl : s.heap.IsTuple l items) (hb : s.heap.IsTuple b items2)
    (he : ∀ j (h1 : j < items.size) (h2 : j < items2.size), EqAt A.in1 s items[j] items2[j] (e j)) (hr : ∀ j (h1 : j < items.size) (h2 : j < items2.size), e j = false → RcLt A.in1 s items[j] items2[j] (r j))
    (h : Q (.bool (firstLt e r (decide (items.size < items2.size)) (List.range (min items.size items2.size)))) s) : wpAny (model prog w) A (call (.builtin "tuple.__lt__") [.ref l, .ref b]) Q E s := by
  obtain ⟨⟨cls, dd, data, sl⟩, ho, hc, n, hd⟩ := id hl
  obtain ⟨⟨cls2, dd2, data2, sl2⟩, ho2, hc2, n2, hd2⟩ := id hb
  simp only at hc hd hc2 hd2
  subst hc hd hc2 hd2
  exact call_meets F.slot_tuple_lt ⟨_, ho, rfl⟩ F.entry_tuple_lt (F.args_tuple_lt_2 _ _) (tuple_ltAt l b items items2 n n2 dd dd2 sl sl2 e r) ⟨ho, ho2, he, hr, h⟩
end
end PySem.SeqAt
namespace PySem.W
open PySem PySem.SeqAt PySem.Calls PyProof.Rows
section
variable {prog : Program} {w : World} {A : Around} {E : Value → Shared → Prop} {s : Shared}
theorem oneLt_tupleX {xs ys : List PyData} {a b : Value} {as bs : List Addr} {Q : Bool → Shared → Prop} (ra : Reads s.heap a (.tuple xs) as) (rb : Reads s.heap b (.tuple ys) bs) (h : alike (.tuple xs) (.tuple ys) = true)
    (hu : A.units + min (PyData.tuple xs).depth (PyData.tuple ys).depth < cLine) (hq : Q (dataLt (.tuple xs) (.tuple ys)) s) : wpAny (model prog w) A (oneLt' true a b) Q E s := by
  have hal : alikeAll xs ys = true := by simpa [alike] using h
  cases ra with
  | @tuple l o vs n _ as₁ h1 h2 h3 h4 =>
    cases rb with
    | @tuple l' o' vs' n' _ bs₁ k1 k2 k3 k4 =>
      have n1 : vs.size = xs.length := by simpa using ReadsAll.length _ _ _ h4
      have n2 : vs'.size = ys.length := by simpa using ReadsAll.length _ _ _ k4
      rw [dataLt_tuple, ← firstLt_toks xs ys hal, ← n1, ← n2] at hq
      rw [oneLt'_eq]
      simp only [if_true]
      refine wpAny_bind (wpAny_cRoomFor (room_here hu) ?_)
      refine wpAny_bind (wpAny_callSpecialIfBound?_slot (T := "tuple") ⟨_, h1, h2⟩ F.slot_tuple_lt (call_tuple_ltX (e := pairEq xs ys) (r := fun j => dataLt (xs.getD j .none) (ys.getD j .none)) ⟨_, h1, h2, _, h3⟩ ⟨_, k1, k2, _, k3⟩ (fun j j1 j2 => ?_) (fun j j1 j2 hj => ?_) ?_))
      · have := eqAt_alikeAll xs ys A.in1 s vs.toList vs'.toList _ _ h4 k4 hal (room_in hu) j (by simpa using j1) (by simpa using j2)
        simpa using this
      · have := rcLt_alikeAll xs ys A.in1 s vs.toList vs'.toList _ _ h4 k4 hal (room_in hu) j (by simpa using j1) (by simpa using j2) hj
        simpa using this
      · exact wpAny_truthy_bool hq
/-- what stands first in each tuple -/
theorem firstsX : ∀ {vs : List Value} {ds : List PyData}, EachIs (fun v d => ∃ as, Reads s.heap v d as) vs ds → (∀ d, d ∈ ds → ∃ xs, d = .tuple xs) →
    ∃ rs : List (Option Value), rs.length = vs.length ∧ (ds.head? = some (.tuple []) → rs.head? = some none) ∧ ∀ Q : List (Option Value) → Shared → Prop, Q rs s → wpAny (model prog w) A (vs.mapM firstOfTuple') Q E s
  | _, _, .nil, _ => ⟨[], rfl, fun h => (by cases h), fun Q h => by rw [List.mapM_nil]; exact wpAny_pure h⟩
  | _, _, .cons (a := v) (b := d) (as := vs) (bs := ds) ⟨as, r⟩ t, ht => by
    obtain ⟨rs, h1, _, h3⟩ := firstsX t fun d hd => ht d (List.mem_cons_of_mem _ hd)
    obtain ⟨xs, rfl⟩ := ht d List.mem_cons_self
    cases r with
    | @tuple l o its n _ as₁ q1 q2 q3 q4 =>
      refine ⟨its[0]? :: rs, by rw [List.length_cons, List.length_cons, h1], fun h => ?_, fun Q h => ?_⟩
      · have : xs = [] := by simpa using h
        subst this
        have hl : its.size = 0 := by simpa using ReadsAll.length _ _ _ q4
        rw [List.head?_cons, Array.getElem?_eq_none (by omega)]
      · rw [List.mapM_cons]
        refine wpAny_bind ?_
        rw [kas_first_eq]
        refine wpAny_bind ((looks_reads (Reads.tuple q1 q2 q3 q4)).here ?_)
        rw [if_neg (by show ¬ (Value.type "tuple" != Value.type "tuple") = true; decide)]
        refine wpAny_bind (listItems_at q1 q3 ?_)
        refine wpAny_pure ?_
        exact wpAny_bind (h3 _ (wpAny_pure h))
theorem keyKindX {vs : List Value} {ds : List PyData} (e : EachIs (fun v d => ∃ as, Reads s.heap v d as) vs ds) (ht : ∀ d, d ∈ ds → ∃ xs, d = .tuple xs) (h0 : ds.head? = some (.tuple [])) {Q : SortKind → Shared → Prop} (h : Q oneType' s) : wpAny (model prog w) A (keyKind' vs.toArray) Q E s := by
  obtain ⟨rs, h1, h2, h3⟩ := firstsX (prog := prog) (w := w) (A := A) (E := E) e ht
  have h2 := h2 h0
  obtain ⟨rs, rfl⟩ : ∃ r, rs = none :: r := by
    cases rs with
    | nil => cases h2
    | cons a r => exact ⟨r, by rw [List.head?_cons] at h2; rw [Option.some.inj h2]⟩
  rw [keyKind'_eq, List.mapM_toArray, map_eq_pure_bind]
  refine wpAny_bind (wpAny_bind (h3 _ (wpAny_pure ?_)))
  rw [if_neg (by simp), if_neg (by simp)]
  rw [oneTypeOnly'_eq, List.mapM_toArray, map_eq_pure_bind]
  have hT : ∀ v ∈ vs, Looks (model prog w) s.heap (typeOf v) (.type "tuple") := fun v hv => by
    obtain ⟨d, hd, as, r⟩ := e.left v hv
    obtain ⟨xs, rfl⟩ := ht d hd
    exact looks_reads r
  refine wpAny_bind (wpAny_bind (wpAny_bind (kas_mapM (r := Value.type "tuple") _ (fun v hv Q' hq => (hT v hv).here hq) (wpAny_pure ?_))))
  have hall : ((List.map (fun _ => Value.type "tuple") vs).toArray.all fun x => x == Value.type "tuple") = true := by
    simp only [List.all_toArray, List.all_map, List.all_eq_true]
    intro _ _
    show (Value.type "tuple" == Value.type "tuple") = true
    decide
  cases vs with
  | nil =>
    exfalso
    cases e
    cases h0
  | cons v r =>
    have h4 : (List.map (fun _ => Value.type "tuple") (v :: r)).toArray[0]? = some (Value.type "tuple") := by simp
    rw [h4]
    simp only [hall, if_true]
    exact wpAny_pure (wpAny_pure h)
theorem SortsAt.dataX {vs : List Value} {ds : List PyData} (e : EachIs (fun v d => ∃ as, Reads s.heap v d as) vs ds) (hal : AllAlike ds) (ht : ∀ d, d ∈ ds → ∃ xs, d = .tuple xs) (h0 : ds.head? = some (.tuple [])) (hu : ∀ d, d ∈ ds → A.units + d.depth < cLine) : SortsAt prog w A s (dataKind s.heap ds) vs := by
  refine ⟨fun v hv => ?_, oneType', fun E x y a b Q ha hb hq => ?_, fun _ E Q hq => keyKindX e ht h0 hq⟩
  · obtain ⟨d, hd, as, r⟩ := e.left v hv
    exact ⟨_, dataKind_some hal hd r⟩
  · obtain ⟨d, as, hd, ra, rfl⟩ := dataKind_inv ha
    obtain ⟨d', as', hd', rb, rfl⟩ := dataKind_inv hb
    obtain ⟨xs, rfl⟩ := ht d hd
    obtain ⟨ys, rfl⟩ := ht d' hd'
    have hdd := hal _ hd _ hd'
    have hroom : A.units + min (PyData.tuple xs).depth (PyData.tuple ys).depth < cLine := Nat.lt_of_le_of_lt (Nat.add_le_add_left (Nat.min_le_left _ _) _) (hu _ hd)
    show wpAny _ _ (oneLt' true x y) _ _ _
    exact oneLt_tupleX ra rb hdd hroom hq
end
end PySem.W
namespace DL
open PySem PySem.Spec PyProof.Rows L2
def SortF (ds : List PyData) : Prop := SortE ds ∨ ((∀ d, d ∈ ds → ∃ xs, d = .tuple xs) ∧ ds.head? = some (.tuple []))
section
open PySem.W
variable {prog : Program} {w : World} {A : Around} {s : Shared} {E : Value → Shared → Prop}
theorem sorted_dataY {β : Type} {R : Value → β → Prop} {enc : β → PyData} {vs : List Value} {bs : List β} {l : Addr} {Q : Value → Shared → Prop} (hl : s.heap.IsList l vs.toArray) (e : EachIs R vs bs) (er : EachIs (fun v b => ∃ as, Reads s.heap v (enc b) as) vs bs) (hal : AllAlike (bs.map enc)) (hk : SortF (bs.map enc)) (hL : bs.length ≤ sizeLine)
    (hu : ∀ b, b ∈ bs → A.units + 2 + (enc b).depth < cLine) (h : ∀ out, out.length = bs.length → EachIs R out (bs.mergeSort (dataLe false enc)) → Q (.ref (s.heap.objs.size + 1)) { s with heap := sortedAll s.heap vs (List.toArray out) }) :
    wpAny (model prog w) A (call (.builtin "sorted") [.ref l]) Q E s := by
  rcases hk with hk | ⟨ht, h0⟩
  · exact sorted_dataE hl e er hal hk hL hu h
  · have er' : EachIs (fun v b => ∃ as, Reads (sortingHeap (copyHeap s.heap vs) (s.heap.objs.size + 1) vs) v (enc b) as) vs bs := er.mono fun _ _ ⟨as, r⟩ => ⟨as, PyProof.Rows.Reads.keeps (fun _ _ => sorting_copy_old) r⟩
    exact sorted_vals hl (SortsAt.dataX (s := { s with heap := sortingHeap (copyHeap s.heap vs) (s.heap.objs.size + 1) vs }) (each_map (R := fun v d => ∃ as, Reads (sortingHeap (copyHeap s.heap vs) (s.heap.objs.size + 1) vs) v d as) enc er') hal ht h0 (bound_map hu)) (by rw [e.length]; exact hL)
      (h _ (by rw [sortVals_length false rfl]; exact e.length) (sortVals_data false e er' hal))
end
def tupB (ds : List PyData) : Bool := (match ds with
  | .tuple [] :: _ => true
  | _ => false) && ds.all fun d => match d with
  | .tuple _ => true
  | _ => false
def sortFB (ds : List PyData) : Bool := sortEB ds || tupB ds
theorem sortF_ok {ds : List PyData} (h : sortFB ds = true) : SortF ds := by
  unfold sortFB at h
  rw [Bool.or_eq_true] at h
  refine h.imp sortE_ok fun h => ?_
  unfold tupB at h
  rw [Bool.and_eq_true, List.all_eq_true] at h
  refine ⟨fun d hd => ?_, ?_⟩
  · have := h.2 d hd
    split at this
    · exact ⟨_, rfl⟩
    · cases this
  · have := h.1
    split at this
    · rfl
    · cases this
/-- sorted of a list, also of tuples of which the first is empty -/
def sortedF : List PyData → Option PyData
  | [.list ds] => if alikeB ds && sortFB ds && layA ds && decide (ds.length ≤ 1000000) && decide (PyData.depthAll ds ≤ 60) then some (.list (sortL ds)) else none
  | _ => none
section
variable {X : Cx}
theorem f_sortedF (hu : X.A.units + 64 < cLine) : FnV X (.builtin "sorted") sortedF := by
  intro pins s σ H xs us Q I r q
  obtain ⟨O, ds0, d, fr, r1, e, q⟩ := q
  unfold sortedF at e
  split at e
  · rename_i ds
    split at e
    · rename_i hc
      cases e
      simp only [Bool.and_eq_true, decide_eq_true_eq] at hc
      obtain ⟨⟨⟨⟨c1, c2⟩, c3⟩, c4⟩, c5⟩ := hc
      obtain ⟨x, rfl, r2⟩ := repA1 r1
      simp only [Rep] at r2
      obtain ⟨a, vs, rfl, t1, a1⟩ := r2
      obtain ⟨its, rv, hl, hz⟩ := I.list t1.sq
      rw [Vals.ref1 r]
      have hlen := a1.length
      have E := each_zip a1 rv
      have em : (vs.zip ds).map (fun p : V × PyData => p.2) = ds := zip_snd hlen.symm
      refine sorted_dataY (bs := vs.zip ds) (enc := fun p : V × PyData => p.2) (R := fun u (p : V × PyData) => (RelV p.1 u ∧ Rep X.K H O p.2 p.1)) hl.isList E ?_ (by rw [em]; exact alikeB_ok c1) (by rw [em]; exact sortF_ok c2) (by rw [List.length_zip, sizeLine_eq]; omega) ?_ fun out h1 h2 => ?_
      · have hmem : ∀ {us : List Value} {ps : List (V × PyData)}, PySem.W.EachIs (fun u (p : V × PyData) => RelV p.1 u ∧ Rep X.K H O p.2 p.1) us ps → (∀ p ∈ ps, layD p.2 = true) → PySem.W.EachIs (fun u (p : V × PyData) => ∃ as, Reads s.heap u p.2 as) us ps := by
          intro us ps h
          induction h with
          | nil => intro _; exact .nil
          | cons h t ih =>
            intro hp
            obtain ⟨as, q1, _⟩ := Rep.reads I (hp _ List.mem_cons_self) h.2 h.1
            exact .cons ⟨as, q1⟩ (ih fun p m => hp p (List.mem_cons_of_mem _ m))
        exact hmem E fun p m => layA_get c3 (List.of_mem_zip m).2
      · intro p m
        have := depA_get c5 (List.of_mem_zip m).2
        show X.A.units + 2 + p.2.depth < cLine
        omega
      · obtain ⟨ep, he'⟩ := PyProof.Rows.sortedAll_at s.heap its out.toArray
        have hv := each_vals (fun u p h => h.1) h2
        have hr := each_rep (fun u p h => h.2) h2
        have e2 : ((vs.zip ds).mergeSort (PySem.W.dataLe false fun p : V × PyData => p.2)).map (·.2) = sortL ds := by
          unfold sortL
          have z := List.map_mergeSort (r := PySem.W.dataLe false fun p : V × PyData => p.2) (s := PySem.W.dataLe false id) (f := fun p : V × PyData => p.2) (l := vs.zip ds) fun _ _ _ _ => rfl
          rw [em] at z
          exact z
        rw [e2] at hr
        generalize hW : ((vs.zip ds).mergeSort (PySem.W.dataLe false fun p : V × PyData => p.2)).map (·.1) = ws at hv hr
        have hwl : ws.length ≤ sizeLine := by
          rw [← hr.length, sizeLine_eq]
          unfold sortL
          rw [List.length_mergeSort]
          omega
        have hp := I.hok.fresh (Nat.le_succ s.heap.objs.size)
        have sm := same_upd (o := .lst ws) hp
        refine ⟨.ref _, upd H (s.heap.objs.size + 1) (.lst ws), I.laid (t' := s.toks) (fun _ _ => PyProof.Rows.sortedAll_old) (Nat.le_succ _) ⟨hwl, out, ep, hv, he'⟩, rfl, q _ _ sm ?_⟩
        simp only [Rep]
        exact ⟨_, ws, rfl, LstAt.rd (.inl upd_same) (fr _ hp), RepA.kp (Same.kp sm) hr⟩
    · cases e
  · cases e
/-- sorted of a list, of a tuple -/
def sortedB : List PyData → Option PyData
  | [.list ds] => sortedF [.list ds]
  | [.tuple ds] => sortedX [.tuple ds]
  | _ => none
theorem sortedF_of {l : List PyData} {d : PyData} (h : sortedE l = some d) : sortedF l = some d := by
  unfold sortedE at h
  split at h
  · rename_i ds
    split at h
    · rename_i hc
      cases h
      simp only [Bool.and_eq_true] at hc
      have e : (alikeB ds && sortFB ds && layA ds && decide (ds.length ≤ 1000000) && decide (PyData.depthAll ds ≤ 60)) = true := by
        simp only [Bool.and_eq_true]
        exact ⟨⟨⟨⟨hc.1.1.1.1, by unfold sortFB; rw [hc.1.1.1.2, Bool.true_or]⟩, hc.1.1.2⟩, hc.1.2⟩, hc.2⟩
      exact if_pos e
    · cases h
  · cases h
theorem sortedB_of {ds : List PyData} {d : PyData} (h : sortedE [.list ds] = some d) : sortedB [.list ds] = some d := sortedF_of h
end
/-! ### a star on an own list, that stays -/
section
variable {rk : Kd} {X : Cx} {ks : List Kd} {ps : List (Nat × V)} {es : List Expr} {pos : Pos}
end
end DL

/-! TYP: sorted of tuples of ints, an empty one first. -/
namespace DL
open PySem PySem.Spec PyProof.Rows L2
section
variable {α : Type} {ea : α → PyData}
theorem q_sortedBL {le : α → α → Bool} {n : Nat} (S : SrtE ea le n) (hn : n ≤ 60 := by decide) : ∀ (p : List α × Unit) v, (fun p : List α × Unit => sortT le p.1) p = some v → sortedB (fC (eL ea) f0 p) = some (eL ea v) := fun p v h => sortedB_of (q_sortedE S hn p v h)
end
section
variable {α β : Type} {ea : α → PyData} {L : SL}
end
end DL

/-! DN1: extend with a tuple. -/
namespace PySem.W
open PySem PyProof.Rows
section
variable {prog : Program} {w : World} {A : Around}
end
end PySem.W
namespace DL
open PySem PySem.Spec PyProof.Rows L2
section
variable {X : Cx}
end
section
variable {rk : Kd} {X : Cx} {ks : List Kd} {ps : List (Nat × V)} {a b c e o : Expr} {es : List Expr} {pos pos' : Pos}
end
end DL

/-! DN2: sorted of a dict whose keys are ints. -/
namespace PySem.W
open PySem PyProof.Rows DL
section
variable {prog : Program} {w : World} {A : Around} {s : Shared} {E : Value → Shared → Prop} {T : String} {r d : Addr} {n : Nat} {P : Nat → Value → Prop} {OK : Heap → Prop}
theorem sorted_src {Q : Value → Shared → Prop} (K : KdlSrc prog w T r d n P OK) (hh : A.handled = none) (hok : OK s.heap) (hn : n ≤ sizeLine)
    (h : ∀ (h' : Heap) (tk : Nat) (vs : List Value), (∀ b o, s.heap.get? b = some o → h'.get? b = some o) → vs.length = n → (∀ (j : Nat) (v : Value), vs[j]? = some v → P j v) →
      ∀ E' : Value → Shared → Prop, wpAny (model prog w) A.in1.in1 (Builtin.«list.sort» ⟨[.ref h'.objs.size], []⟩) (fun f s' => f = .done (.ret .none) ∧ Q (.ref h'.objs.size) s') E' { s with heap := h'.push (seqObj "list" vs.toArray 0), toks := tk }) :
    wpAny (model prog w) A (call (.builtin "sorted") [.ref r]) Q E s := by
  refine call_function_entry_kw kind_sorted plain_sorted entry_sorted (args_sorted1 _) ?_
  unfold Builtin.«sorted»
  refine wpAny_bind (m := checkCount "sorted" 1 1 _) (wpAny_pure ?_)
  refine wpAny_bind (kdu_collect (A := A.in1) K hh hok hn fun h' tk acc hk hacc => ?_)
  have hl : acc.toList.length = n := by rw [Array.length_toList]; exact hacc.1
  refine wpAny_bind (wpAny_newList ?_ (by rw [hl]; exact hn))
  refine wpAny_bind (wpAny_holding (wpAny_call_entry_kw slot_list_sort ⟨_, Heap.get?_push_size _ rfl, rfl⟩ entry_list_sort ?body (args_list_sort _)))
  case body =>
    show wpAny (model prog w) A.in1.in1 (Builtin.«list.sort» ⟨[.ref h'.objs.size], []⟩) _ _ _
    refine wpAny_mono (h h' tk acc.toList hk hl (fun j v e => hacc.2 j v (by rw [← Array.getElem?_toList]; exact e)) _) (fun f s' hf => ?_) fun _ _ e => e
    obtain ⟨rfl, hq⟩ := hf
    exact ⟨_, rfl, wpAny_pure ⟨_, rfl, hq⟩⟩
theorem sorted_srcD {β : Type} {R : Value → β → Prop} {enc : β → PyData} {bs : List β} {Q : Value → Shared → Prop} (K : KdlSrc prog w T r d n P OK) (hh : A.handled = none) (hok : OK s.heap) (hn : n ≤ sizeLine)
    (e : ∀ vs : List Value, vs.length = n → (∀ (j : Nat) (v : Value), vs[j]? = some v → P j v) → EachIs R vs bs) (er : ∀ vs, EachIs R vs bs → EachIs (fun v b => ∃ as, Reads s.heap v (enc b) as) vs bs) (hal : AllAlike (bs.map enc)) (hk : DL.SortE (bs.map enc)) (hL : bs.length ≤ sizeLine)
    (hu : ∀ b, b ∈ bs → A.units + 2 + (enc b).depth < cLine)
    (h : ∀ (h' h2 : Heap) (tk : Nat) (out : List Value) (ep : Nat), (∀ b o, s.heap.get? b = some o → h'.get? b = some o) → (∀ b o, h'.get? b = some o → h2.get? b = some o) → h2.get? h'.objs.size = some (seqObj "list" (List.toArray out) ep) → out.length = bs.length → EachIs R out (bs.mergeSort (dataLe false enc)) → Q (.ref h'.objs.size) { s with heap := h2, toks := tk }) :
    wpAny (model prog w) A (call (.builtin "sorted") [.ref r]) Q E s := by
  refine sorted_src K hh hok hn fun h' tk vs k1 hl hp E' => ?_
  have ev := e vs hl hp
  have hv : vs.length = bs.length := ev.length
  have old : ∀ b o, h'.get? b = some o → (sortingHeap (h'.push (seqObj "list" vs.toArray 0)) h'.objs.size vs).get? b = some o := fun b o q =>
    sortingHeap_old (Nat.ne_of_lt (Heap.lt_size q)) (Heap.get?_push_of_some _ q)
  have er' : EachIs (fun v b => ∃ as, Reads (sortingHeap (h'.push (seqObj "list" vs.toArray 0)) h'.objs.size vs) v (enc b) as) vs bs :=
    (er vs ev).mono fun _ _ ⟨as, r⟩ => ⟨as, PyProof.Rows.Reads.keeps (fun b o q => old b o (k1 b o q)) r⟩
  have at0 : (h'.push (seqObj "list" vs.toArray 0)).get? h'.objs.size = some (seqObj "list" vs.toArray 0) := Heap.get?_push_size _ rfl
  have fin : ∀ κ : PyProof.Rows.KeyKind, EachIs R (sortVals κ false vs vs) (bs.mergeSort (dataLe false enc)) → (sortVals κ false vs vs).length = bs.length →
      Q (.ref h'.objs.size) { s with heap := sortedHeap (h'.push (seqObj "list" vs.toArray 0)) h'.objs.size vs (sortVals κ false vs vs).toArray, toks := tk } := fun κ q1 q2 => by
    obtain ⟨ep, he⟩ := PyProof.Rows.sortedHeap_at (vs := vs) (out := (sortVals κ false vs vs).toArray) at0
    exact h h' _ tk _ ep k1 (fun b o q => by
      rw [sortedHeap_old (Nat.ne_of_lt (Heap.lt_size q)) (by rw [size_push']; exact Nat.lt_succ_of_lt (Heap.lt_size q))]
      exact Heap.get?_push_of_some _ q) he q2 q1
  rcases hk with hk | ⟨h1, hn'⟩
  · refine list_sort_vals (s := { s with heap := h'.push (seqObj "list" vs.toArray 0), toks := tk }) at0 (SortsAt.data (s := { s with heap := sortingHeap (h'.push (seqObj "list" vs.toArray 0)) h'.objs.size vs, toks := tk }) (each_map (R := fun v d => ∃ as, Reads (sortingHeap (h'.push (seqObj "list" vs.toArray 0)) h'.objs.size vs) v d as) enc er') hal hk (bound_map hu)) (by rw [hv]; exact hL) ⟨rfl, ?_⟩
    exact fin _ (sortVals_data false ev er' hal) (by rw [sortVals_length false rfl]; exact hv)
  · refine list_sort_vals (s := { s with heap := h'.push (seqObj "list" vs.toArray 0), toks := tk }) at0 (sortsAt_one (s := { s with heap := sortingHeap (h'.push (seqObj "list" vs.toArray 0)) h'.objs.size vs, toks := tk }) (each_map (R := fun v d => ∃ as, Reads (sortingHeap (h'.push (seqObj "list" vs.toArray 0)) h'.objs.size vs) v d as) enc er') hal hn' (by rw [hv]; simpa using h1) (bound_map hu)) (by rw [hv]; exact hL) ⟨rfl, ?_⟩
    exact fin _ (sortVals_data false ev er' hal) (by rw [sortVals_length false rfl]; exact hv)
end
end PySem.W
namespace DL
open PySem PySem.Spec PyProof.Rows L2
theorem each_of_get {α β : Type} {R : α → β → Prop} : ∀ {vs : List α} {bs : List β}, vs.length = bs.length → (∀ (j : Nat) v b, vs[j]? = some v → bs[j]? = some b → R v b) → PySem.W.EachIs R vs bs
  | [], [], _, _ => .nil
  | [], _ :: _, h, _ => by cases h
  | _ :: _, [], h, _ => by cases h
  | v :: vs, b :: bs, h, q => .cons (q 0 v b rfl rfl) (each_of_get (by simpa using h) fun j v' b' h1 h2 => q (j + 1) v' b' h1 h2)
/-- sorted of a dict with ints, texts as keys -/
def sortedKD : List PyData → Option PyData
  | [.dict kvs] => if alikeB (kvs.map (·.1)) && sortEB (kvs.map (·.1)) && layA (kvs.map (·.1)) && decide (kvs.length ≤ 1000000) && decide (PyData.depthAll (kvs.map (·.1)) ≤ 60) && (kvs.map (·.1)).all isK then some (.list (sortL (kvs.map (·.1)))) else none
  | _ => none
section
variable {X : Cx}
theorem keys_src {H : Hp} {pins : List (Addr × Obj)} {σ : L2.St} {s : Shared} {a : Addr} {ds : List PyData} {xs : List V} (I : Inv X pins σ H s) (hd : DctAt H a ds xs) (hk : ds.all isK = true) (hz : ds.length ≤ 1000000) :
    (a == sysModules) = false ∧ ∃ es ep, s.heap.DictRaw a es ep ∧ es.size = ds.length ∧ ∀ (i : Nat) (hi : i < es.size), ∃ k : L2.Key, ds[i]? = some (kD k) ∧ RelV (kV k) es[i].key := by
  rcases hd with ⟨l, h1, h2, h3⟩ | ⟨l, h1, h2, h3⟩
  · obtain ⟨z, y, vs, kv, dd⟩ := dk_rd I.hok h1
    obtain ⟨es, ep, hr, hs, he⟩ := dd.raw
    have hl : l.length = vs.length := kv.length
    refine ⟨y, es, ep, hr, by rw [hs, h2, List.length_map, hl], fun i hi => ?_⟩
    obtain ⟨⟨k, v⟩, hkv⟩ : ∃ p, l[i]? = some p := ⟨l[i]'(by omega), List.getElem?_eq_getElem _⟩
    obtain ⟨u, hu, ru⟩ := kv_get kv hkv
    exact ⟨k, by rw [h2, List.getElem?_map, hkv]; rfl, relV_key (he i hi k u hu).1⟩
  · obtain ⟨z, y, ys, rel, dd⟩ := dt_rd I.hok h1
    obtain ⟨es, ep, hr, hs, he⟩ := dd.raw
    have hl : l.length = ys.length := Paired.length rel
    have e0 : l = [] := by
      cases l with
      | nil => rfl
      | cons p l =>
        exfalso
        rw [h2, List.map_cons, List.all_cons] at hk
        exact absurd hk (by simp [tpD, isK])
    subst e0
    refine ⟨y, es, ep, hr, by rw [hs, h2, ← hl]; rfl, fun i hi => ?_⟩
    rw [hs, ← hl] at hi
    exact absurd hi (Nat.not_lt_zero _)
theorem rep_of_kD {K : PySem.W.Frag} {H : Hp} {O : Addr → Prop} (k : L2.Key) : Rep K H O (kD k) (kV k) := by
  cases k <;> simp only [kD, Rep] <;> rfl
theorem each_keys {K : PySem.W.Frag} {H : Hp} {O : Addr → Prop} : ∀ {out : List Value} {ds : List PyData}, PySem.W.EachIs (fun u d => ∃ k : L2.Key, d = kD k ∧ RelV (kV k) u) out ds → ∃ ws, Vals ws out ∧ RepA K H O ds ws
  | [], [], _ => ⟨[], .nil, by simp only [RepA]⟩
  | _ :: _, _ :: _, .cons ⟨k, e, r⟩ t => by
    obtain ⟨ws, h1, h2⟩ := each_keys (K := K) (H := H) (O := O) t
    subst e
    refine ⟨kV k :: ws, .cons r h1, ?_⟩
    simp only [RepA]
    exact ⟨_, _, rfl, rep_of_kD k, h2⟩
theorem f_sortedKD (hc : X.calm = true) (hu : X.A.units + 64 < cLine) : FnV X (.builtin "sorted") sortedKD := by
  intro pins s σ H xs us Q I r q
  obtain ⟨O, ds0, d, fr, r1, e, q⟩ := q
  unfold sortedKD at e
  split at e
  · rename_i kvs
    split at e
    · rename_i hc'
      cases e
      simp only [Bool.and_eq_true, decide_eq_true_eq] at hc'
      obtain ⟨⟨⟨⟨⟨c1, c2⟩, c3⟩, c4⟩, c5⟩, c6⟩ := hc'
      obtain ⟨x, rfl, r2⟩ := repA1 r1
      simp only [Rep] at r2
      obtain ⟨a, vs, rfl, nO, t1, a1⟩ := r2
      rw [Vals.ref1 r]
      generalize hds : kvs.map (·.1) = ds at *
      have hlen : ds.length = kvs.length := by rw [← hds, List.length_map]
      obtain ⟨lo, es, ep, hr, hs, he⟩ := keys_src I t1 c6 (by omega)
      have em : ds.map (id : PyData → PyData) = ds := List.map_id ds
      refine PySem.W.sorted_srcD (bs := ds) (enc := id) (R := fun u d => ∃ k : L2.Key, d = kD k ∧ RelV (kV k) u) (PySem.KdlSrc.rawDict (es := es) (ep := ep) lo) (I.ok.hd hc) hr (by rw [hs, sizeLine_eq]; omega) (fun vs hl hp => ?_) (fun vs ev => ?_) (by rw [em]; exact alikeB_ok c1) (by rw [em]; exact sortE_ok c2) (by rw [sizeLine_eq]; omega) (fun b m => ?_) fun h' h2 tk out ep' k1 k2 hat hl hE => ?_
      · refine each_of_get (by rw [hl, hs]) fun j v b g1 g2 => ?_
        obtain ⟨hi, rfl⟩ := hp j v g1
        obtain ⟨k, q1, q2⟩ := he j hi
        rw [q1] at g2
        exact ⟨k, (Option.some.inj g2).symm, q2⟩
      · refine ev.mono fun v b ⟨k, e, r⟩ => ?_
        subst e
        obtain ⟨as, q1, _⟩ := Rep.reads (O := O) I (d := kD k) (by cases k <;> rfl) (rep_of_kD k) r
        exact ⟨as, q1⟩
      · have := depA_get c5 m
        show X.A.units + 2 + b.depth < cLine
        omega
      · have hw : PySem.W.EachIs (fun u d => ∃ k : L2.Key, d = kD k ∧ RelV (kV k) u) out (sortL ds) := hE
        obtain ⟨ws, hv, hr'⟩ := each_keys (K := X.K) (H := H) (O := O) hw
        have hwl : ws.length ≤ sizeLine := by
          rw [← hr'.length, sizeLine_eq]
          unfold sortL
          rw [List.length_mergeSort]
          omega
        have I' : Inv X pins σ H { s with heap := h' } := I.kept (t' := s.toks) k1
        have hp := I'.hok.fresh (Nat.le_refl h'.objs.size)
        have sm := same_upd (o := .lst ws) hp
        refine ⟨.ref _, upd H h'.objs.size (.lst ws), I'.laid (t' := tk) k2 (Nat.le_refl _) ⟨hwl, out, ep', hv, hat⟩, rfl, q _ _ sm ?_⟩
        simp only [Rep]
        exact ⟨_, ws, rfl, LstAt.rd (.inl upd_same) (fr _ hp), RepA.kp (Same.kp sm) hr'⟩
    · cases e
  · cases e
end
end DL
namespace DL
open PySem PySem.Spec PyProof.Rows L2
/-- sorted of a list, of a tuple, of a dict -/
def sortedC : List PyData → Option PyData
  | [.list ds] => sortedF [.list ds]
  | [.tuple ds] => sortedX [.tuple ds]
  | [.dict kvs] => sortedKD [.dict kvs]
  | _ => none
section
variable {X : Cx}
theorem f_sortedC (hc : X.calm = true) (hu : X.A.units + 64 < cLine) : FnV X (.builtin "sorted") sortedC := by
  intro pins s σ H xs us Q I r q
  obtain ⟨O, ds0, d, fr, r1, e, q⟩ := q
  unfold sortedC at e
  split at e
  · exact f_sortedF hu pins s σ H xs us Q I r ⟨O, _, d, fr, r1, e, q⟩
  · exact f_sortedT0 hu pins s σ H xs us Q I r ⟨O, _, d, fr, r1, e, q⟩
  · exact f_sortedKD hc hu pins s σ H xs us Q I r ⟨O, _, d, fr, r1, e, q⟩
  · cases e
end
end DL

/-! TYQ: extend with a tuple. -/
namespace DL
open PySem PySem.Spec PyProof.Rows L2
section
variable {α : Type} {ea : α → PyData} {L : SL}
theorem q_sortedCL {le : α → α → Bool} {n : Nat} (S : SrtE ea le n) (hn : n ≤ 60 := by decide) : ∀ (p : List α × Unit) v, (fun p : List α × Unit => sortT le p.1) p = some v → sortedC (fC (eL ea) f0 p) = some (eL ea v) := fun p v h => q_sortedBL S hn p v h
end
end DL

/-! DP1: tuples whose object is known to have no attributes (kind pt): tuple(list), (), such a name, dict(such a name). -/
namespace DL
open PySem PySem.Spec PyProof.Rows L2
section
variable {X : Cx}
/-- tuple(list), the object told -/
theorem call_tupleP : CallR X (.type "tuple") (fun xs H Q => ∃ p ys, xs = [.ref p] ∧ SqL X.K H p ys ∧ ∀ l o, H l = none → o.dict = none → Q (.ref l) (upd H l (.frz o (.tup ys)))) := by
  intro pins s σ H xs us Q I r h
  obtain ⟨p, ys, rfl, hq, q⟩ := h
  obtain ⟨u, rfl, rx⟩ := vals1 r
  cases rx
  obtain ⟨its, r', pl, hz⟩ := I.list hq
  have hlen := r'.length
  have hn := line63
  refine call_tuple_list pl.isList (fun h' kp => ?_) (by simp only [List.size_toArray] <;> omega)
  have I1 : Inv X pins σ H { s with heap := h' } := I.kept (t' := s.toks) kp
  have I2 : Inv X pins σ (upd H h'.objs.size (.frz { cls := .type "tuple", data := .seq its.toArray } (.tup ys))) { s with heap := h'.push { cls := .type "tuple", data := .seq its.toArray } } :=
    I1.laid (t' := s.toks) (fun b o e => Heap.get?_push_of_some _ e) (Nat.le_refl _) (show ObjOk X.prog X.w _ _ _ (.frz _ (.tup ys)) from ⟨Heap.get?_push_size _ rfl, hz, its, r', IsTup.new _ _⟩)
  exact ⟨.ref h'.objs.size, _, I2, rfl, q _ _ (I1.hok.fresh (Nat.le_refl _)) rfl⟩
theorem pairs_of2 {pins : List (Addr × Obj)} {σ : L2.St} {H : Hp} {s : Shared} (I : Inv X pins σ H s) : ∀ {ps : List Addr} {kvs : List (Key × V)}, Paired (fun p kv => SqT X.K H p [kV kv.1, kv.2]) ps kvs →
    ∃ (prs : List (Key × Value)) (us : List (Value × Value)), KV kvs prs ∧ prs.length = ps.length ∧ us.length = ps.length ∧ ∀ (j : Nat) (k v : Value), us[j]? = some (k, v) → (∃ b, ps[j]? = some b ∧ IsTup s.heap b #[k, v]) ∧ ∃ κ, prs[j]? = some (κ, v) ∧ (mixKind X.prog X.w).is κ k = true
  | _, _, .nil => ⟨[], [], .nil, rfl, rfl, fun j k v e => by simp at e⟩
  | _, _, .cons (a := p) (b := kv) h t => by
    obtain ⟨prs, us, r, hl, hl2, hp⟩ := pairs_of2 I t
    obtain ⟨its, rv, ht, _⟩ := I.tuple h
    obtain ⟨u, y, ei, ru, ry⟩ := vals2 rv
    subst ei
    refine ⟨(kv.1, y) :: prs, (u, y) :: us, .cons ⟨rfl, ry⟩ r, by rw [List.length_cons, List.length_cons, hl], by rw [List.length_cons, List.length_cons, hl2], fun j k v e => ?_⟩
    cases j with
    | zero =>
      have e' : (u, y) = (k, v) := Option.some.inj e
      cases e'
      exact ⟨⟨p, rfl, ht⟩, kv.1, rfl, kV_is (P := X.prog) (w := X.w) ru⟩
    | succ j =>
      obtain ⟨⟨b, e1, e2⟩, κ, e3, e4⟩ := hp j k v (by simpa using e)
      exact ⟨⟨b, by simpa using e1, e2⟩, κ, by simpa using e3, e4⟩
/-- dict(t) of a tuple of pairs whose object has no attributes -/
theorem call_dictT (hcalm : X.calm = true) : CallR X (.type "dict") (fun xs H Q => ∃ (a : Addr) (ps : List Addr) (kvs : List (Key × V)) (o : Obj), xs = [.ref a] ∧ H a = some (.frz o (.tup (ps.map V.ref))) ∧ o.dict = none ∧ Paired (fun p kv => SqT X.K H p [kV kv.1, kv.2]) ps kvs ∧
    ∀ p, H p = none → Q (.ref p) (upd H p (.dK (mergeK [] kvs)))) := by
  intro pins s σ H xs us Q I r q
  obtain ⟨a, ps, kvs, o, ex, hq, hod, hp, q⟩ := q
  subst ex
  obtain ⟨u, eu, rx⟩ := vals1 r
  subst eu
  cases rx
  obtain ⟨ho, hz, its, rv, o', ho', hc, n, hdat⟩ := I.hok a _ hq
  rw [ho] at ho'
  cases ho'
  have ei := refs_at rv
  subst ei
  rw [List.length_map] at hz
  obtain ⟨prs, us, rel, hl, hl2, hpr⟩ := pairs_of2 I hp
  have P := PairArg.tuple (prog := X.prog) (w := X.w) a (ps.map Value.ref).toArray (fun j => ps.getD j 0) us
  have pi : PairItems s.heap (ps.map Value.ref).toArray (fun j => ps.getD j 0) us := ⟨by simp [hl2], fun j k v hj => by
    obtain ⟨⟨b, e1, e2⟩, _⟩ := hpr j k v hj
    have e3 : ps.getD j 0 = b := by rw [List.getD_eq_getElem?_getD, e1]; rfl
    dsimp only
    rw [e3]
    exact ⟨by simp [e1], .inl e2⟩⟩
  refine call_dict_pairs (knd := mixKind X.prog X.w) (kvs := prs) P (I.ok.hd hcalm) ⟨⟨o, n, ho, hc, hod, hdat⟩, pi⟩ ⟨by rw [hl, hl2], fun i k v e => ?_⟩ (by rw [hl2]; exact hz) fun h' tk hd' k => ?_
  · exact (hpr i k v e).2
  · have hm : (s.heap.objs.size == sysModules) = false := beq_eq_false_iff_ne.mpr (Nat.ne_of_gt I.big)
    have hlen : (mergeK [] kvs).length ≤ sizeLine := by
      refine Nat.le_trans (length_mergeK kvs []) ?_
      rw [List.length_nil, Nat.zero_add, rel.length, hl]
      exact hz
    exact ⟨.ref s.heap.objs.size, upd H s.heap.objs.size (.dK (mergeK [] kvs)), I.laid (t' := tk) (fun b o e => k b o (by simp) e) (Nat.le_refl _) (show ObjOk X.prog X.w _ _ _ (.dK (mergeK [] kvs)) from ⟨hlen, hm, merged [] prs, KV.merge rel .nil, hd'⟩), rfl, q _ (I.hok.fresh (Nat.le_refl _))⟩
end
section
variable {rk : Kd} {X : Cx} {ks : List Kd} {ps : List (Nat × V)} {a b c e o : Expr} {es : List Expr} {pos pos' : Pos}
theorem pt_rep {K : PySem.W.Frag} {H : Hp} {O : Addr → Prop} {F : List Addr} {d : PyData} {v : V} (h : OwnAt K H O .pt F d v) : Rep K H O d v := by
  obtain ⟨a, xs, ds, o, rfl, rfl, rfl, e1, e2, e3, r⟩ := h
  simp only [Rep]
  exact ⟨a, xs, rfl, .inr ⟨.inl (.inr ⟨o, e1⟩), e3⟩, r⟩
/-- such a name, read -/
theorem ed_ptVar (i : Nat) {x : Str} (hk : ks[i]? = some .pt) (hN : X.N[i]? = some x := by rfl) (hv : Vis X.env.scope x := by first | exact Or.inl rfl | exact Or.inr (Or.inl rfl) | exact Or.inr (Or.inr rfl)) (hd : (x == ("__debug__" : Str)) = false := by decide)
    (hcd : (x == ("__classdict__" : Str)) = false := by decide) : ED X ks ps (.Name x pos) (mVar i) := PE.imp (pe_var hN hv hd hcd) fun σ H Q q => by
  obtain ⟨G, F, env, d, env', I, hm, q⟩ := q
  unfold mVar at hm
  split at hm
  · rename_i d he
    cases hm
    obtain ⟨v, Fi, g1, g2, o⟩ := I.sl i d _ he hk
    exact ⟨v, g1, q v F H .refl I (pt_rep o)⟩
  · cases hm
end
end DL

/-! DP2: kind pt: tuple(list), displays, dict(name), defs whose first parameter is such a tuple; data of the top. -/
namespace DL
open PySem PySem.Spec PyProof.Rows L2
section
variable {rk : Kd} {X : Cx} {ks : List Kd} {ps : List (Nat × V)} {a b c e o : Expr} {es : List Expr} {pos pos' : Pos}
/-- tuple(list) -/
def tupPD : List PyData → Option PyData
  | [.list ds] => if kt (.tuple ds) = true then some (.tuple ds) else none
  | _ => none
theorem fr_kp {O : Addr → Prop} {H : Hp} {p : Addr} {u : HO} (hp : H p = none) : Kp O H O (upd H p u) := Same.kp (same_upd hp)
theorem fd_tupleP {x : Str} {p : Pos} {m : M Opd} (hx : x = "tuple") (hg : Gl X x) (hm : X.mg x = none) (ha : RD X ks ps e m)
    (he : starEach [e] X.env = (false, eval e X.env) :: starEach [] X.env := by rfl) : FD X ks ps .pt (.Call (.Name x p) [e] [] pos) (mCallB tupPD (mA m mA0)) := by
  subst hx
  refine PE.imp (pe_callTy call_tupleP hg hm (by decide +kernel) (pa_cons ha pa_nil he) (by decide) (by decide) he) fun σ H Q q => ?_
  obtain ⟨G, F, env, d, env', I, hm, q⟩ := q
  obtain ⟨os, e1, h1, h2⟩ := bnd_some hm
  obtain ⟨o1, e2, h3, h4⟩ := bnd_some h1
  cases h4
  obtain ⟨rfl, ds, g1, g3, gi⟩ := rsN_some h2
  refine ⟨G, F, env, o1, _, I, h3, fun v F1 H1 S1 I1 r1 => ?_⟩
  have hd : ∃ d1, o1.get env' = some d1 ∧ ds = [d1] := by
    unfold getAll at g1
    split at g1
    · cases g1
    · rename_i d1 hd1
      unfold getAll at g1
      cases g1
      exact ⟨d1, hd1, rfl⟩
  obtain ⟨d1, hd1, rfl⟩ := hd
  have r := HoldsO.rep I1 r1 hd1
  unfold tupPD at g3
  split at g3
  · rename_i l hds
    cases hds
    split at g3
    · rename_i hk
      cases g3
      simp only [Rep] at r
      obtain ⟨a, vs, rfl, t1, a1⟩ := r
      have a2 : RepA X.K H1 (OO G F1) l vs := by
        cases ho : o1.own with
        | false => rw [ho] at a1; exact a1
        | true =>
          have : imm (.tuple l) = true := by
            have : ¬ ((List.any [o1] Opd.own && !imm (.tuple l)) = true) := gi
            simp only [List.any_cons, List.any_nil, Bool.or_false, ho, Bool.true_and] at this
            cases w : imm (.tuple l) with
            | true => rfl
            | false => rw [w] at this; exact absurd rfl this
          simp only [imm] at this
          exact RepA.imm this a1
      refine ⟨a, vs, rfl, t1.sq, fun p o hp ho => ?_⟩
      refine q _ F1 _ [] (S1.trans (.same (same_upd hp))) (by rw [noneG]; exact I1.same (same_upd hp)) (by rw [noneG]; exact ⟨p, vs, l, o, rfl, rfl, rfl, upd_same, ho, hk, RepA.kp (fr_kp hp) a2⟩) List.nodup_nil fun a ha => nomatch ha
    · cases g3
  · cases g3
/-- dict(x), x such a name -/
def mDictT (i : Nat) : M PyData := fun e => match e[i]? with
  | some (some (.tuple ds)) => (pairsOf ds).map fun prs => (.dict (mergeD [] prs), e)
  | _ => none
theorem fd_dictT (i : Nat) {x y : Str} {p py : Pos} (hx : x = "dict") (hc : X.calm = true) (hg : Gl X x) (hm : X.mg x = none) (hk : ks[i]? = some .pt) (hN : X.N[i]? = some y := by rfl) (hv : Vis X.env.scope y := by first | exact Or.inl rfl | exact Or.inr (Or.inl rfl) | exact Or.inr (Or.inr rfl)) (hd : (y == ("__debug__" : Str)) = false := by decide)
    (hcd : (y == ("__classdict__" : Str)) = false := by decide) (he : starEach [.Name y py] X.env = (false, eval (.Name y py) X.env) :: starEach [] X.env := by rfl) : FD X ks ps .dk (.Call (.Name x p) [.Name y py] [] pos) (mDictT i) := by
  subst hx
  refine PE.imp (pe_callTy (call_dictT hc) hg hm (by decide +kernel) (pa_cons (pe_var hN hv hd hcd) pa_nil he) (by decide) (by decide) he) fun σ H Q q => ?_
  obtain ⟨G, F, env, d, env', I, hm, q⟩ := q
  unfold mDictT at hm
  split at hm
  · rename_i l hl
    obtain ⟨prs, hp, hm⟩ := Option.map_eq_some_iff.mp hm
    cases hm
    obtain ⟨v, Fi, g1, g2, o⟩ := I.sl i _ _ hl hk
    obtain ⟨ad, xs, ds, ob, rfl, e1, rfl, e2, e3, e4, r⟩ := o
    cases e1
    obtain ⟨as, kvs, rfl, q1, q2, q3⟩ := pairs_rel hp r
    refine ⟨_, g1, ad, as, kvs, ob, rfl, e2, e3, q1, fun p hp => ?_⟩
    have q3' := RepV.kp (fresh_kp (F := F) (G := G) (u := .dK (mergeK [] kvs)) hp) q3
    obtain ⟨m1, m2⟩ := merge_rel (acc := []) (l := []) rfl (by simp only [List.map_nil, RepV]) q2 q3'
    refine q _ F _ [p] (.same (same_upd hp)) (fresh_own I hp) ⟨p, _, mergeK [] kvs, rfl, rfl, rfl, upd_same, m1, m2⟩ (List.nodup_cons.mpr ⟨List.not_mem_nil, List.nodup_nil⟩) fun a ha => ?_
    rw [List.mem_singleton.mp ha]
    exact ⟨fun z => I.gt p z hp, .inr hp⟩
  · cases hm
/-- a name of the top that holds data -/
theorem ed_top {x : Str} {a : Addr} {d : PyData} (hg : Gl X x) (hm : X.mg x = some (.ref a)) (h : ∀ H O, Rep X.K H O d (.ref a)) (hd : (x == ("__debug__" : Str)) = false := by decide) : ED X ks ps (.Name x pos) (ret d) := PE.imp (pe_glob (v := .ref a) hg hm rfl hd) fun σ H Q q => by
  obtain ⟨G, F, env, d', env', I, hm, q⟩ := q
  cases hm
  exact q (.ref a) F H .refl I (h H _)
/-- pairs of the top: a tuple of two pairs of ints -/
theorem top_pairs {K : PySem.W.Frag} {a b c : Addr} {o1 o2 o3 : Option Addr} {s1 s2 s3 : Array (Option Value)} {n1 n2 n3 : Nat} {i j k l : Int} {ti tj tk tl : Nat} (ha : K.lookup a = some ⟨.type "tuple", o1, .seq #[.ref b, .ref c] n1, s1⟩) (hb : K.lookup b = some ⟨.type "tuple", o2, .seq #[.int i ti, .int j tj] n2, s2⟩) (hc : K.lookup c = some ⟨.type "tuple", o3, .seq #[.int k tk, .int l tl] n3, s3⟩)
    (h1 : kt (.tuple [.int i, .int j]) = true) (h2 : kt (.tuple [.int k, .int l]) = true) : ∀ H O, Rep K H O (.tuple [.tuple [.int i, .int j], .tuple [.int k, .int l]]) (.ref a) := fun H O => by
  have z : ∀ n : Nat, n ≤ 2 → n ≤ sizeLine := fun n h => Nat.le_trans h (by rw [sizeLine_eq]; decide)
  have two : ∀ (b : Addr) (o2 : Option Addr) (s2 : Array (Option Value)) (n2 : Nat) (i j : Int) (ti tj : Nat), K.lookup b = some ⟨.type "tuple", o2, .seq #[.int i ti, .int j tj] n2, s2⟩ → kt (.tuple [.int i, .int j]) = true → Rep K H O (.tuple [.int i, .int j]) (.ref b) := fun b o2 s2 n2 i j ti tj hb hk => by
    simp only [Rep]
    exact ⟨b, [.int i, .int j], rfl, .inr ⟨.inr ⟨_, #[.int i ti, .int j tj], n2, hb, rfl, rfl, z _ (Nat.le_refl _), .cons ⟨ti, rfl⟩ (.cons ⟨tj, rfl⟩ .nil)⟩, hk⟩, .cons (by simp only [Rep]) (.cons (by simp only [Rep]) .nil)⟩
  simp only [Rep]
  refine ⟨a, [.ref b, .ref c], rfl, .inr ⟨.inr ⟨_, #[.ref b, .ref c], n1, ha, rfl, rfl, z _ (Nat.le_refl _), .cons rfl (.cons rfl .nil)⟩, rfl⟩, .cons ?_ (.cons ?_ .nil)⟩
  · exact two b o2 s2 n2 i j ti tj hb h1
  · exact two c o3 s3 n3 k l tk tl hc h2
end
end DL

/-! DP3: calls of defs whose first parameter is a known tuple (kind pt). -/
namespace DL
open PySem PySem.Spec PyProof.Rows L2
theorem pt_EI {K : PySem.W.Frag} {O : Addr → Prop} {H : Hp} {d0 : PyData} {v0 : V} {ds : List PyData} {vs : List V} {n : Nat} (fr : ∀ p, H p = none → ¬ O p) (h0 : OwnAt K H O .pt [] d0 v0) (h : RepA K H O ds vs) (hn : ds.length = n) : EI K (.pt :: List.replicate n .frz) [] O (List.replicate (n + 1) []) ((v0 :: vs).map some) H ((d0 :: ds).map some) := by
  have hl := h.length
  have kp : Kp O H (OO O (List.replicate (n + 1) [])) H := Kp.less fun a z => z.elim id fun z => absurd z noF_rep
  refine ⟨by simp, by simp [hn], by simp; omega, ⟨fun i Fi e => ?_, fun i j Fi Fj a e1 e2 m1 m2 => ?_⟩, fun a ha => absurd ha noF_rep, fun a ha => fun z => fr a z ha, fun i d kd h1 h2 => ?_, (fun p hp => nomatch hp), fun i h => ?_⟩
  · rw [List.getElem?_replicate] at e
    split at e
    · cases e; exact List.nodup_nil
    · cases e
  · rw [List.getElem?_replicate] at e1
    split at e1
    · cases e1; cases m1
    · cases e1
  · have hi : i < n + 1 := by
      have := (List.getElem?_eq_some_iff.mp h2).1
      simpa using this
    refine Exists.elim (show ∃ v, ((v0 :: vs).map some)[i]? = some (some v) ∧ OwnAt K H (OO O (List.replicate (n + 1) [])) kd [] d v from ?_) fun v hv => ⟨v, [], hv.1, by rw [List.getElem?_replicate, if_pos hi], hv.2⟩
    cases i with
    | zero =>
      simp at h1 h2
      subst h1; subst h2
      exact ⟨v0, rfl, h0.kp kp fun a ha => nomatch ha⟩
    | succ i =>
      rw [List.getElem?_cons_succ, List.getElem?_replicate] at h2
      split at h2
      · cases h2
        rw [List.map_cons, List.getElem?_cons_succ, List.getElem?_map] at h1
        obtain ⟨d', e1, e2⟩ := Option.map_eq_some_iff.mp h1
        cases e2
        obtain ⟨x, e3, r⟩ := h.get e1
        exact ⟨x, by rw [List.map_cons, List.getElem?_cons_succ, List.getElem?_map, e3]; rfl, rfl, Rep.kp kp r⟩
      · cases h2
  · have hi : i < n + 1 := by
      have := (List.getElem?_eq_some_iff.mp h).1
      simpa using this
    rw [List.getElem?_replicate, if_pos hi]
def spP (K : PySem.W.Frag) (n : Nat) (rk : Kd) (g : List PyData → Option PyData) : Sp := fun vs H Q _ => vs.length = n + 1 ∧ ∃ O d0 v0 ds vs' d, vs = v0 :: vs' ∧ (∀ p, H p = none → ¬ O p) ∧ OwnAt K H O .pt [] d0 v0 ∧ RepA K H O ds vs' ∧ g (d0 :: ds) = some d ∧
  ∀ v H' Fr, Same H H' → OwnAt K H' (fun a => O a ∨ a ∈ Fr) rk Fr d v → Fr.Nodup → (∀ a ∈ Fr, H a = none ∧ H' a ≠ none) → Q v H'
section
variable {rk : Kd} {X : Cx} {ks : List Kd} {ps : List (Nat × V)} {e : Expr} {es : List Expr} {pos : Pos}
theorem fd_callPt {k n i : Nat} {x y : Str} {p py : Pos} {mf : List PyData → Option (PyData × List PyData)} {ma : M (List Opd)} (F : FnD X.prog X.w X.K X.mg X.base k x (.pt :: List.replicate n .frz) rk mf) (hr : Room k X.A) (hgd : X.A.guards = some []) (hg : Gl X x)
    (hx : Passes CX0 X E0) (hki : ks[i]? = some .pt) (ha : AoD X ks ps es ma) (hN : X.N[i]? = some y := by rfl) (hv : Vis X.env.scope y := by first | exact Or.inl rfl | exact Or.inr (Or.inl rfl) | exact Or.inr (Or.inr rfl)) (hyd : (y == ("__debug__" : Str)) = false := by decide)
    (hcd : (y == ("__classdict__" : Str)) = false := by decide) (hdb : (x == ("__debug__" : Str)) = false := by decide) (he : starEach (.Name y py :: es) X.env = (false, eval (.Name y py) X.env) :: starEach es X.env := by rfl) (hpl : (backTo pos (starEach es X.env)).any (·.1) = false := by rfl) :
    FD X ks ps rk (.Call (.Name x p) (.Name y py :: es) [] pos) (mCall rk (n + 1) mf (mA (mVal (mVar i)) ma)) := by
  obtain ⟨f, fd, ps', F1, hm, hk, hb⟩ := F
  have F2 : FnG X.prog X.w X.K X.mg X.base CX0 k f fd ps' (spP X.K n rk fun ds => if ds.length = n + 1 then (mf ds).map (·.1) else none) := F1.weak fun vs H Q E h => by
    obtain ⟨hl, O, d0, v0, ds, vs', d, rfl, fr, o0, ra, hd, q⟩ := h
    have hln : ds.length = n := by rw [ra.length]; simpa using hl
    have hd : (if (d0 :: ds).length = n + 1 then Option.map (fun x => x.fst) (mf (d0 :: ds)) else none) = some d := hd
    rw [if_pos (by rw [List.length_cons, hln])] at hd
    obtain ⟨⟨d', outs⟩, h1, rfl⟩ := Option.map_eq_some_iff.mp hd
    refine ⟨by simpa using hl, O, _, d0 :: ds, d', outs, pt_EI fr o0 ra hln, h1, fun v F' H' Fr S J o n hF => q v H' Fr (fun a u e => S.keep a u e noF_rep) (o.kp (Kp.less fun a z => .inl z) fun a _ ob e => e) n fun a ha => ⟨(hF a ha).2.resolve_left noF_rep, J.gt a (.inr ha)⟩⟩
  refine PE.imp (pg_call F2 hr hgd hg hm hk hb hx (pa_cons (pe_var hN hv hyd hcd) ha he) hdb he hpl) fun σ H Q q => ?_
  obtain ⟨G, F, env, d, env', I, hm', q⟩ := q
  obtain ⟨os0, e1, h1, h2⟩ := bnd_some hm'
  obtain ⟨o1, e2, h3, h4⟩ := bnd_some h1
  obtain ⟨os, e3, h5, h6⟩ := bnd_some h4
  cases h6
  obtain ⟨d0, e4, h7, h8⟩ := bnd_some h3
  cases h8
  unfold mVar at h7
  split at h7
  · rename_i d0x he0
    cases h7
    obtain ⟨v0, Fi, g01, g02, o0⟩ := I.sl i _ _ he0 hki
    have e0 : Fi = [] := by obtain ⟨_, _, _, _, h, _⟩ := o0; exact h
    subst e0
    obtain ⟨rfl, dss, g1, g3, gi⟩ := rsK_some h2
    have g1' : ∃ ds, getAll os env' = some ds ∧ dss = d0 :: ds := by
      unfold getAll at g1
      split at g1
      · cases g1
      · rename_i d1 hd1
        cases hd1
        split at g1
        · cases g1
        · rename_i ds hds
          cases g1
          exact ⟨ds, hds, rfl⟩
    obtain ⟨ds, g1b, rfl⟩ := g1'
    refine ⟨v0, g01, G, F, _, os, env', I, h5, fun vs F1 H1 S1 I1 r1 => ?_⟩
    have ra := HoldsA.rep I1 r1 g1b
    have hlen : (v0 :: vs).length = n + 1 := by
      have g3' : (if (d0 :: ds).length = n + 1 then Option.map (fun x => x.fst) (mf (d0 :: ds)) else none) = some d := g3
      split at g3'
      · rename_i hh
        rw [List.length_cons, ← ra.length]
        exact hh
      · cases g3'
    have gi' : ¬ (os.any Opd.own && !immK rk d) = true := gi
    have o2 : OwnAt X.K H1 (OO G F1) .pt [] d0 v0 := OwnAt.kp S1.kp (fun a ha => by cases ha) o0
    have o1 : OwnAt X.K H1 (if (os.any Opd.own) then fun _ => False else OO G F1) .pt [] d0 v0 := OwnAt.kp (Kp.less fun a z => by
      split at z
      · exact z.elim
      · exact z) (fun a ha => by cases ha) o2
    refine ⟨hlen, _, d0, v0, ds, vs, d, rfl, fresh_if I1, o1, ra, g3, fun w H3 Fr s3 o3 n3 hF => ?_⟩
    refine q w F1 H3 Fr (S1.trans (.same s3)) (I1.moreG s3 (fun a z => z.imp id fun z => (hF a z).1) fun a z => z.elim (fun z => (Stp.same (F := F1) s3).dom a (I1.gt a z)) fun z => (hF a z).2) ?_ n3 fun a ha => ⟨fun z => I1.gt a z (hF a ha).1, .inr (S1.back (hF a ha).1)⟩
    refine (ifownK gi' o3).kp (Kp.less fun a z => ?_) fun a _ ob e => e
    rcases z with (z | z) | z
    · exact .inl (.inl z)
    · exact .inr z
    · exact .inl (.inr z)
  · cases h7
end
end DL

/-! DP4: comprehensions over a dict that is only read. -/
namespace DL
open PySem PySem.Spec PyProof.Rows L2
section
variable {rk : Kd} {X : Cx} {ks : List Kd} {ps : List (Nat × V)} {a b c e o : Expr} {es : List Expr} {pos pos' : Pos}
/-- [.. for .. in x], x a dict that is only read -/
theorem fd_compD {elt tg : Expr} {ifs : List Expr} {scope : Scope} {own : List (Str × Nat)} {i : Nat} {x : Str} {p : Pos} {g : St1} {t : M Bool} {m : M PyData} (hc : X.calm = true) (hNd : X.N.Nodup) (hN : X.N[i]? = some x) (hki : ks[i]? = some .frz) (hv : Vis X.env.scope x) (ok : BlkOk X.N X.env.scope scope own)
    (hg : ∀ (s : Shared) (H : Hp) (C : Addr) (cl : List (Str × Addr)) (fp : List Addr), GD (X.blk s H scope (compEnvC scope cl C X.env) fp) ks ps (own.map (·.2)) tg g)
    (ht : ∀ (s : Shared) (H : Hp) (C : Addr) (cl : List (Str × Addr)) (fp : List Addr), PTs (X.blk s H scope (compEnvC scope cl C X.env) fp) ifs (tT X.K ks ps t))
    (he : ∀ (s : Shared) (H : Hp) (C : Addr) (cl : List (Str × Addr)) (fp : List Addr), ED (X.blk s H scope (compEnvC scope cl C X.env) fp) ks ps elt m)
    (hfp : frzAll ks ps (own.map (·.2)) = true) (hd : (x == ("__debug__" : Str)) = false := by decide) (hcd : (x == ("__classdict__" : Str)) = false := by decide)
    (hs : ∀ y, foldedSetIterable (.Name x p) X.env y = pure y := by intro _; rfl) : FD X ks ps .l1 (.ListComp elt [⟨tg, .Name x p, ifs, 0⟩] scope pos) (mComp (mKeys i) g t m (own.map (·.2))) := by
  have base : PE X (.ListComp elt [⟨tg, .Name x p, ifs, 0⟩] scope pos) (fun σ H Q => FrzAt i σ H ∧ tLc (tI X.K ks ps (mKeys i)) (tG X.K ks ps (own.map (·.2)) g) (tT X.K ks ps t) (tD X.K ks ps m) (own.map (·.2)) σ H Q) :=
    PE.imp (pe_lc hc hNd (pi_keysF (tg := tg) (ps := ps) (p := p) hN hki hv hd hcd) ok hg ht he hs) fun σ H Q q => q
  refine ⟨fun pins s σ H Q I0 q => ?_⟩
  obtain ⟨G, F, env, d, env', I, hm, q⟩ := q
  obtain ⟨ds, e1, ys, e2, h1, hl, h2, rfl, rfl⟩ := mComp_some hm
  obtain ⟨hk, hp⟩ := frzAll_k hfp
  have h10 := h1
  unfold mKeys at h10
  cases g1 : dctAt i env with
  | none => rw [g1] at h10; cases h10
  | some kvs =>
  obtain ⟨v, hσ, rv⟩ := I.at_frz (dctAt_some g1) hki
  simp only [Rep] at rv
  obtain ⟨ad, xs, rfl, hO, hD, _⟩ := rv
  have hF : ad ∉ F.flatten := fun z => hO (.inr z)
  have key : ∃ u, ((∃ l, u = HO.dK l) ∨ (∃ l, u = HO.dT l)) ∧ Rd H ad u := by
    rcases hD with ⟨l, hl, _⟩ | ⟨l, hl, _⟩
    · exact ⟨_, .inl ⟨l, rfl⟩, hl⟩
    · exact ⟨_, .inr ⟨l, rfl⟩, hl⟩
  obtain ⟨u, hu, hlr⟩ := key
  have nf : ∀ o v, u ≠ .frz o v := fun o v z => by rcases hu with ⟨l, rfl⟩ | ⟨l, rfl⟩ <;> cases z
  have mu : Mut (some u) := by rcases hu with ⟨l, rfl⟩ | ⟨l, rfl⟩ <;> exact trivial
  have eG : ∀ D : Addr, (fun a => G a ∨ a = D) = fun a => G a ∨ a ∈ [D] := fun D => by funext a; simp
  rcases hlr with hlr | ⟨od, hlr⟩
  · refine (pe_lock base).run pins s σ H Q I0 ⟨ad, u, hlr, mu, fun od => ⟨⟨ad, od, u, hσ, upd_same⟩, ?_⟩⟩
    have I' : EI X.K ks ps G F σ (upd H ad (.frz od u)) env := Lkd.ei (H1 := upd H ad (.frz od u)) ⟨fun b hb => upd_ne hb, od, u, hu, .inl ⟨hlr, upd_same⟩⟩ hF I
    refine comp_read I' h1 hl h2 hk hp fun D xs' F' H' S J hD' eD ra nO => ?_
    have f1 : H' ad = some (.frz od u) := S.frz ad od u upd_same
    have hne : D ≠ ad := by rintro rfl; rw [upd_same] at hD'; cases hD'
    have lk : Lkd ad H' (upd H' ad u) := ⟨fun b hb => upd_ne hb, od, u, hu, .inr ⟨f1, upd_same⟩⟩
    have hF' : ad ∉ F'.flatten := fun z => by
      rcases S.new ad z with q | q
      · exact hF q
      · rw [upd_same] at q; cases q
    have hDn : H D = none := by rw [upd_ne hne] at hD'; exact hD'
    rw [eG] at J ra
    refine ⟨f1, q _ F' _ [D] (S.unlk nf hlr) (lk.ei hF' J) ⟨D, xs', ys, rfl, rfl, rfl, by rw [upd_ne hne]; exact eD, lk.repA ra⟩ (List.nodup_cons.mpr ⟨List.not_mem_nil, List.nodup_nil⟩) fun a ha => ?_⟩
    rw [List.mem_singleton.mp ha]
    exact ⟨fun z => nO (.inl z), .inr hDn⟩
  · refine base.run pins s σ H Q I0 ⟨⟨ad, od, u, hσ, hlr⟩, ?_⟩
    refine comp_read I h1 hl h2 hk hp fun D xs' F' H' S J hD' eD ra nO => ?_
    rw [eG] at J ra
    exact q _ F' H' [D] S J ⟨D, xs', ys, rfl, rfl, rfl, eD, ra⟩ (List.nodup_cons.mpr ⟨List.not_mem_nil, List.nodup_nil⟩) fun a ha => by
      rw [List.mem_singleton.mp ha]
      exact ⟨fun z => nO (.inl z), .inr hD'⟩
theorem ed_compD {elt tg : Expr} {ifs : List Expr} {scope : Scope} {own : List (Str × Nat)} {i : Nat} {x : Str} {p : Pos} {g : St1} {t : M Bool} {m : M PyData} (hc : X.calm = true) (hNd : X.N.Nodup) (hN : X.N[i]? = some x) (hki : ks[i]? = some .frz) (hv : Vis X.env.scope x) (ok : BlkOk X.N X.env.scope scope own)
    (hg : ∀ (s : Shared) (H : Hp) (C : Addr) (cl : List (Str × Addr)) (fp : List Addr), GD (X.blk s H scope (compEnvC scope cl C X.env) fp) ks ps (own.map (·.2)) tg g)
    (ht : ∀ (s : Shared) (H : Hp) (C : Addr) (cl : List (Str × Addr)) (fp : List Addr), PTs (X.blk s H scope (compEnvC scope cl C X.env) fp) ifs (tT X.K ks ps t))
    (he : ∀ (s : Shared) (H : Hp) (C : Addr) (cl : List (Str × Addr)) (fp : List Addr), ED (X.blk s H scope (compEnvC scope cl C X.env) fp) ks ps elt m)
    (hfp : frzAll ks ps (own.map (·.2)) = true) (hd : (x == ("__debug__" : Str)) = false := by decide) (hcd : (x == ("__classdict__" : Str)) = false := by decide)
    (hs : ∀ y, foldedSetIterable (.Name x p) X.env y = pure y := by intro _; rfl) : ED X ks ps (.ListComp elt [⟨tg, .Name x p, ifs, 0⟩] scope pos) (mComp (mKeys i) g t m (own.map (·.2))) := ed_own (fd_compD hc hNd hN hki hv ok hg ht he hfp hd hcd hs)
end
end DL

/-! TYT: typed readings of DP2: tuple(list) and dict(tuple) of pairs. -/
namespace DL
open PySem PySem.Spec PyProof.Rows L2
section
variable {α : Type} {ea : α → PyData} {L : SL}
theorem kt_of (h : ∀ a : α, ktI (ea a) = false) : ∀ l : List α, kt ((eT ea) l) = true
  | [] => rfl
  | a :: l => by
    have e : (eT ea) (a :: l) = .tuple (ea a :: l.map ea) := rfl
    rw [e]
    unfold kt
    dsimp only
    rw [List.all_cons, h a, Bool.false_and, Bool.not_false, Bool.or_true, Bool.true_or]
theorem q_tupP (hk : ∀ l : List α, kt ((eT ea) l) = true) : ∀ (p : List α × Unit) v, (fun p : List α × Unit => some p.1) p = some v → tupPD (fC (eL ea) f0 p) = some (eT ea v) := fun p v h => by
  cases h
  show (if kt (.tuple (p.1.map ea)) = true then some (PyData.tuple (p.1.map ea)) else none) = _
  rw [if_pos (hk p.1)]
def dTT : PyData → Option PyData
  | .tuple ds => (pairsOf ds).map fun prs => .dict (mergeD [] prs)
  | _ => none
theorem x_dictT {i : Nat} {d : PyData} (hi : L[i]? = some (some (some d))) : XP eA (mDictT i) L (dTT d) := fun e he v hv => by
  have h1 := he.at_ i _ hi
  unfold mDictT
  rw [h1]
  cases d with
  | tuple ds =>
    have hv : (pairsOf ds).map (fun prs => PyData.dict (mergeD [] prs)) = some v := hv
    obtain ⟨prs, h2, rfl⟩ := Option.map_eq_some_iff.mp hv
    exact ⟨e, by dsimp only; rw [h2]; rfl, he⟩
  | _ => cases hv
theorem okkP {own : Bool} {e : α → PyData} (h : ImmE e) : OkK own .pt (eT e) := .inr fun v => by
  show immA (v.map e) = true
  exact immA_all fun d hd => by obtain ⟨x, _, rfl⟩ := List.mem_map.mp hd; exact h x
end
section
variable {α β τ : Type} {ea : α → PyData} {eb : β → PyData} {R : τ → Out → Prop} {s : Src}
theorem xb_dPutS {kd : Kd} {i : Nat} {d : PyData} {L : Src → SL} {me mi : M PyData} {r : B} {t : Src → Option (α × Src)} {tk : Src → Option (β × Src)} {T : PyData → Src → Option τ} (hi : ∀ s, (L s)[i]? = some (some (some (eA d)))) (he : XS ea me L t) (hk : XS eb mi (fun s => (L s).set i (some none)) tk) (hr : ∀ v s', XB r ((L s').set i (some (some (eA v)))) (T v s') R) :
    XB (sSeq (DL.sDPut kd i me mi) r) (L s) (drw (t s) fun x s1 => drw (tk s1) fun k s2 => (dPutT kd d (eb k) (ea x)).bind fun v => T v s2) R := fun e hm v hv => by
  obtain ⟨⟨x, s1⟩, h1, hva⟩ := Option.bind_eq_some_iff.mp hv
  obtain ⟨⟨k, s2⟩, h3, hvb⟩ := Option.bind_eq_some_iff.mp hva
  obtain ⟨d', h4, h5⟩ := Option.bind_eq_some_iff.mp hvb
  clear hvb hva hv
  obtain ⟨e1, g1, g2⟩ := he s e hm x s1 h1
  obtain ⟨e2, g3, g4⟩ := hk s1 _ (g2.set i none) k s2 h3
  unfold dPutT at h4
  split at h4
  · rename_i kvs
    split at h4
    · rename_i ok
      cases h4
      have hL : (L s2).set i (some (some (PyData.dict (putD kvs (eb k) (ea x))))) = ((L s2).set i (some none)).set i (some (some (PyData.dict (putD kvs (eb k) (ea x))))) := by rw [List.set_set]
      obtain ⟨o, k1, k2⟩ := hr _ s2 (e2.set i (some (.dict (putD kvs (eb k) (ea x))))) (by show Mt _ ((L s2).set i (some (some (PyData.dict (putD kvs (eb k) (ea x)))))); rw [hL]; exact g4.set i _) v h5
      refine ⟨o, ?_, k2⟩
      unfold sSeq DL.sDPut
      rw [g1]; dsimp only
      rw [dctAt_of (g2.at_ _ _ (hi s1))]; dsimp only
      rw [g3]; dsimp only
      rw [if_pos ok]
      exact k1
    · cases h4
  · cases h4
end
end DL

namespace K16
open PySem PySem.Spec PyProof.Rows L2 DL
/-! ### law_k16_power_sums: the text -/
def topS (i : Nat) : Stmt := PySem.Challenge.pw_lacednets_k16_power_sums.main.body.getD i (.Pass ⟨0, 0, 0, 0⟩)
def top_LOOP : PyData := .tuple [.tuple [.int (-2), .int (-1)], .tuple [.int (2), .int (-1)]]
/-! ### mirrors -/
abbrev s_is_power_sum : Stmt := topS 2
def c0_is_power_sum : M PyData := mComp (mIt (mVar 1)) (gNm 3) mYes (mAndV (mIsi "int" (mVal (mVar 3))) (mNotV (mIsi "bool" (mVal (mVar 3))))) [3]
def b0_is_power_sum : B := (sSeq (sIf (mOr (mNot (mTest (mIsi "tuple" (mVal (mVar 1))))) (mTest (mBin neD (mVal (mCallB lenD (mA (mVal (mVar 1)) mA0))) (mVal (ret (.int 2))))))
  (sRet (ret (.bool false)))
  sNx)
  (sIf (mOr (mNot (mTest (mCallB allD (mA (mVal c0_is_power_sum) mA0)))) (mTest (mBin eqE (mVal (mBin itemD (mVal (mVar 1)) (mVal (ret (.int 1))))) (mVal (ret (.int 0))))))
  (sRet (ret (.bool false)))
  sNx))
def c1_is_power_sum : M PyData := mComp (mRng rg2 (mA (mVal (ret (.int 1))) (mA (mVal (mCallB lenD (mA (mVal (mVar 0)) mA0))) mA0))) (gNm 2) (mTest (mBin leD (mVal (mBin itemD (mVal (mBin itemD (mVal (mVar 0)) (mVal (mVar 2)))) (mVal (ret (.int 0))))) (mVal (mBin itemD (mVal (mBin itemD (mVal (mVar 0)) (mVal (mBin subD (mVal (mVar 2)) (mVal (ret (.int 1))))))) (mVal (ret (.int 0))))))) (mVar 2) [2]
def m_is_power_sum : List PyData → Option (PyData × List PyData) := mDef .frz [.frz] 4
  (sSeq (sIf (mNot (mTest (mIsi "tuple" (mVal (mVar 0)))))
  (sRet (ret (.bool false)))
  sNx)
  (sSeq (sFor (mIt (mVar 0)) (gNm 1) b0_is_power_sum)
  (sRet (mBin eqE (mVal c1_is_power_sum) (mVal (mLst mA0))))))
abbrev s_told_powers : Stmt := topS 3
def c0_told_powers : M PyData := mComp (mIt (mCallB sortedC (mA (mVal (mVar 0)) mA0))) (gNm 1) (mTest (mBin neD (mVal (mFGet 0 (mVar 1))) (mVal (ret (.int 0))))) (mTup (mA (mVal (mVar 1)) (mA (mVal (mFGet 0 (mVar 1))) mA0))) [1]
def m_told_powers : List PyData → Option (PyData × List PyData) := mDef .pt [.frz] 2
  (sRet (mCallB tupPD (mA (mVal c0_told_powers) mA0)))
abbrev s_added_powers : Stmt := topS 4
def b0_added_powers : B := (DL.sDPut .dk 3 (mBin addD (mVal (mDGet2 .dk 3 (mVar 4) (ret (.int 0)))) (mVal (mBin mulD (mVal (mVar 2)) (mVal (mVar 5))))) (mVar 4))
def m_added_powers : List PyData → Option (PyData × List PyData) := mDef .pt [.pt, .frz, .frz] 6
  (sSeq (sAsg (mDictT 0) (gNm 3))
  (sSeq (sFor (mIt (mVar 1)) (gTp 2 (gCn (gNm 4) (gCn (gNm 5) gNl))) b0_added_powers)
  (sRet (mCall .pt 1 m_told_powers (mA (mSlot 3) mA0)))))
abbrev s_multiplied_powers : Stmt := topS 5
def b0_multiplied_powers : B := (DL.sDPut .dk 2 (mBin addD (mVal (mDGet2 .dk 2 (mBin addD (mVal (mVar 3)) (mVal (mVar 5))) (ret (.int 0)))) (mVal (mBin mulD (mVal (mVar 4)) (mVal (mVar 6))))) (mBin addD (mVal (mVar 3)) (mVal (mVar 5))))
def b1_multiplied_powers : B := (sFor (mIt (mVar 1)) (gTp 2 (gCn (gNm 5) (gCn (gNm 6) gNl))) b0_multiplied_powers)
def m_multiplied_powers : List PyData → Option (PyData × List PyData) := mDef .frz [.frz, .frz] 7
  (sSeq (sAsg (ret (.dict [])) (gNm 2))
  (sSeq (sFor (mIt (mVar 0)) (gTp 2 (gCn (gNm 3) (gCn (gNm 4) gNl))) b1_multiplied_powers)
  (sRet (mCall .pt 1 m_told_powers (mA (mSlot 2) mA0)))))
abbrev s_turned_powers : Stmt := topS 6
def c0_turned_powers : M PyData := mComp (mIt (mVar 0)) (gTp 2 (gCn (gNm 1) (gCn (gNm 2) gNl))) mYes (mTup (mA (mVal (mUn negD (mVal (mVar 1)))) (mA (mVal (mVar 2)) mA0))) [1, 2]
def m_turned_powers : List PyData → Option (PyData × List PyData) := mDef .frz [.frz] 3
  (sRet (mCallB tupleD (mA (mVal (mCallB sortedC (mA (mVal c0_turned_powers) mA0))) mA0)))
abbrev s_loops_taken : Stmt := topS 7
def b0_loops_taken : B := (sAsg (mCall .frz 2 m_multiplied_powers (mA (mVal (mVar 1)) (mA (mVal (ret top_LOOP)) mA0))) (gNm 1))
def m_loops_taken : List PyData → Option (PyData × List PyData) := mDef .frz [.frz] 3
  (sSeq (sAsg (mTup (mA (mVal (mTup (mA (mVal (ret (.int 0))) (mA (mVal (ret (.int 1))) mA0)))) mA0)) (gNm 1))
  (sSeq (sFor (mRng rg1 (mA (mVal (mVar 0)) mA0)) (gNm 2) b0_loops_taken)
  (sRet (mVar 1))))
abbrev s_sum_at_one : Stmt := topS 8
def c0_sum_at_one : M PyData := mComp (mIt (mVar 0)) (gTp 2 (gCn (gNm 1) (gCn (gNm 2) gNl))) mYes (mVar 2) [1, 2]
def m_sum_at_one : List PyData → Option (PyData × List PyData) := mDef .frz [.frz] 3
  (sRet (mCallB sumD (mA (mVal c0_sum_at_one) mA0)))
abbrev s__law_source : Stmt := topS 10
def b0_law_source : B := (sAsg (mBin modD (mVal (mCallB intD (mA (mVal (mBin addD (mVal (mBin addD (mVal (mBin mulD (mVal (mVar 1)) (mVal (ret (.int 69069))))) (mVal (mBin mulD (mVal (mVar 2)) (mVal (ret (.int 31))))))) (mVal (ret (.int 5))))) mA0))) (mVal (ret (.int 2147483629)))) (gNm 1))
def c0_law_source : M PyData := mComp (mIt (mVar 0)) (gNm 2) mYes (mCallB absD (mA (mVal (mVar 2)) mA0)) [2]
def m_law_source : List PyData → Option (PyData × List PyData) := mDef .src [.frz] 3
  (sSeq (sAsg (ret (.int 11)) (gNm 1))
  (sSeq (sFor (mIt (mVar 0)) (gNm 2) b0_law_source)
  (sRet (mSrcNew (mUn revD (mVal c0_law_source)) (ret (.int 1)) (mVar 1) (ret (.int 0))))))
abbrev s__law_pick : Stmt := topS 11
def b0_law_pick : B := (sSrcPut 0 .left (mSrcPop 0))
def m_law_pick : List PyData → Option (PyData × List PyData) := mDef .frz [.src, .frz] 4
  (sSeq (sWhile (srcFuel 0) (mAnd (mTest (mBin gtD (mVal (mVar 1)) (mVal (ret (.int 1))))) (mAnd (mTest (mBin ltD (mVal (mSrcGet 0 .left)) (mVal (ret (.int 2))))) (mTest (mBin gtD (mVal (mSrcLen 0)) (mVal (ret (.int 0))))))) b0_law_pick)
  (sSeq (sAsg (mSrcGet 0 .left) (gNm 2))
  (sSeq (sIf (mOr (mTest (mBin ltD (mVal (mVar 1)) (mVal (ret (.int 2))))) (mTest (mBin gtD (mVal (mVar 2)) (mVal (ret (.int 1))))))
  (sSeq (sSrcPut 0 .left (mBin fdivD (mVal (mVar 2)) (mVal (mCallB max2D (mA (mVal (ret (.int 1))) (mA (mVal (mVar 1)) mA0))))))
  (sRet (mBin modD (mVal (mCallB intD (mA (mVal (mVar 2)) mA0))) (mVal (mCallB max2D (mA (mVal (ret (.int 1))) (mA (mVal (mVar 1)) mA0)))))))
  sNx)
  (sSeq (sSrcPut 0 .turn (mBin addD (mVal (mSrcGet 0 .turn)) (mVal (ret (.int 1)))))
  (sSeq (sAsg (mBin modD (mVal (mCallB intD (mA (mVal (mBin addD (mVal (mSrcGet 0 .mixed)) (mVal (mBin mulD (mVal (mSrcGet 0 .turn)) (mVal (ret (.int 104729))))))) mA0))) (mVal (ret (.int 998244353)))) (gNm 3))
  (sSeq (sAsg (mBin modD (mVal (mCallB intD (mA (mVal (mBin addD (mVal (mBin mulD (mVal (mVar 3)) (mVal (mVar 3)))) (mVal (mBin mulD (mVal (mSrcGet 0 .turn)) (mVal (ret (.int 17))))))) mA0))) (mVal (ret (.int 2147483647)))) (gNm 3))
  (sSeq (sSrcPut 0 .mixed (mVar 3))
  (sRet (mBin modD (mVal (mCallB intD (mA (mVal (mBin fdivD (mVal (mVar 3)) (mVal (ret (.int 16))))) mA0))) (mVal (mVar 1)))))))))))
abbrev s__law_of : Stmt := topS 12
def m_law_of : List PyData → Option (PyData × List PyData) := mDef .frz [.src, .frz] 2
  (sRet (mBin itemD (mVal (mVar 1)) (mVal (mCallS .frz .src m_law_pick 0 1 (mA (mVal (mCallB lenD (mA (mVal (mVar 1)) mA0))) mA0)))))
abbrev s__law_told : Stmt := topS 13
def c0_law_told : M PyData := mComp (mKeys 0) (gNm 1) (mTest (mBin neD (mVal (mFGet 0 (mVar 1))) (mVal (ret (.int 0))))) (mTup (mA (mVal (mVar 1)) (mA (mVal (mFGet 0 (mVar 1))) mA0))) [1]
def m_law_told : List PyData → Option (PyData × List PyData) := mDef .pt [.frz] 2
  (sRet (mCallB tupPD (mA (mVal (mCallB sortedC (mA (mVal c0_law_told) mA0))) mA0)))
abbrev s__law_added : Stmt := topS 14
def b0_law_added : B := (DL.sDPut .dk 3 (mBin addD (mVal (mDGet2 .dk 3 (mVar 4) (ret (.int 0)))) (mVal (mBin mulD (mVal (mVar 2)) (mVal (mVar 5))))) (mVar 4))
def m_law_added : List PyData → Option (PyData × List PyData) := mDef .frz [.pt, .frz, .frz] 6
  (sSeq (sAsg (mDictT 0) (gNm 3))
  (sSeq (sFor (mIt (mVar 1)) (gTp 2 (gCn (gNm 4) (gCn (gNm 5) gNl))) b0_law_added)
  (sRet (mCall .pt 1 m_law_told (mA (mSlot 3) mA0)))))
abbrev s__law_times : Stmt := topS 15
def b0_law_times : B := (DL.sDPut .dk 2 (mBin addD (mVal (mDGet2 .dk 2 (mBin addD (mVal (mVar 3)) (mVal (mVar 5))) (ret (.int 0)))) (mVal (mBin mulD (mVal (mVar 4)) (mVal (mVar 6))))) (mBin addD (mVal (mVar 3)) (mVal (mVar 5))))
def b1_law_times : B := (sFor (mIt (mVar 1)) (gTp 2 (gCn (gNm 5) (gCn (gNm 6) gNl))) b0_law_times)
def m_law_times : List PyData → Option (PyData × List PyData) := mDef .frz [.frz, .frz] 7
  (sSeq (sAsg (ret (.dict [])) (gNm 2))
  (sSeq (sFor (mIt (mVar 0)) (gTp 2 (gCn (gNm 3) (gCn (gNm 4) gNl))) b1_law_times)
  (sRet (mCall .pt 1 m_law_told (mA (mSlot 2) mA0)))))
abbrev s__law_loops : Stmt := topS 16
def b0_law_loops : B := (sAsg (mCall .frz 2 m_law_times (mA (mVal (mVar 1)) (mA (mVal (mTup (mA (mVal (mTup (mA (mVal (mUn negD (mVal (ret (.int 2))))) (mA (mVal (mUn negD (mVal (ret (.int 1))))) mA0)))) (mA (mVal (mTup (mA (mVal (ret (.int 2))) (mA (mVal (mUn negD (mVal (ret (.int 1))))) mA0)))) mA0)))) mA0))) (gNm 1))
def m_law_loops : List PyData → Option (PyData × List PyData) := mDef .frz [.frz] 3
  (sSeq (sAsg (mTup (mA (mVal (mTup (mA (mVal (ret (.int 0))) (mA (mVal (ret (.int 1))) mA0)))) mA0)) (gNm 1))
  (sSeq (sFor (mRng rg1 (mA (mVal (mVar 0)) mA0)) (gNm 2) b0_law_loops)
  (sRet (mVar 1))))
abbrev s__law_sum : Stmt := topS 17
def b0_law_sum : B := (DL.sDPut .dk 3 (mCallS .frz .src m_law_of 0 1 (mA (mVal (mLst (mA (mVal (ret (.int 1))) (mA (mVal (mUn negD (mVal (ret (.int 1))))) (mA (mVal (ret (.int 2))) (mA (mVal (mUn negD (mVal (ret (.int 3))))) (mA (mVal (ret (.int 7))) mA0))))))) mA0)) (mBin subD (mVal (mCallS .frz .src m_law_pick 0 1 (mA (mVal (mBin addD (mVal (mBin mulD (mVal (ret (.int 2))) (mVal (mVar 2)))) (mVal (ret (.int 1))))) mA0))) (mVal (mVar 2))))
def m_law_sum : List PyData → Option (PyData × List PyData) := mDef .pt [.src, .frz, .frz] 5
  (sSeq (sAsg (ret (.dict [])) (gNm 3))
  (sSeq (sFor (mRng rg1 (mA (mVal (mCallS .frz .src m_law_pick 0 1 (mA (mVal (mBin addD (mVal (mVar 1)) (mVal (ret (.int 1))))) mA0))) mA0)) (gNm 4) b0_law_sum)
  (sRet (mCall .pt 1 m_law_told (mA (mSlot 3) mA0)))))
abbrev s__law_is_int : Stmt := topS 18
def m_law_is_int : List PyData → Option (PyData × List PyData) := mDef .frz [.frz] 1
  (sRet (mAndV (mIsi "int" (mVal (mVar 0))) (mNotV (mIsi "bool" (mVal (mVar 0))))))
abbrev s__law_is_sum : Stmt := topS 19
def b0_law_is_sum : B := (sSeq (sIf (mOr (mNot (mTest (mIsi "tuple" (mVal (mVar 1))))) (mOr (mTest (mBin neD (mVal (mCallB lenD (mA (mVal (mVar 1)) mA0))) (mVal (ret (.int 2))))) (mNot (mTest (mCall .frz 1 m_law_is_int (mA (mVal (mBin itemD (mVal (mVar 1)) (mVal (ret (.int 0))))) mA0))))))
  (sRet (ret (.bool false)))
  sNx)
  (sIf (mOr (mNot (mTest (mCall .frz 1 m_law_is_int (mA (mVal (mBin itemD (mVal (mVar 1)) (mVal (ret (.int 1))))) mA0)))) (mTest (mBin eqE (mVal (mBin itemD (mVal (mVar 1)) (mVal (ret (.int 1))))) (mVal (ret (.int 0))))))
  (sRet (ret (.bool false)))
  sNx))
def c0_law_is_sum : M PyData := mComp (mRng rg2 (mA (mVal (ret (.int 1))) (mA (mVal (mCallB lenD (mA (mVal (mVar 0)) mA0))) mA0))) (gNm 2) (mTest (mBin leD (mVal (mBin itemD (mVal (mBin itemD (mVal (mVar 0)) (mVal (mVar 2)))) (mVal (ret (.int 0))))) (mVal (mBin itemD (mVal (mBin itemD (mVal (mVar 0)) (mVal (mBin subD (mVal (mVar 2)) (mVal (ret (.int 1))))))) (mVal (ret (.int 0))))))) (mVar 2) [2]
def m_law_is_sum : List PyData → Option (PyData × List PyData) := mDef .frz [.frz] 3
  (sSeq (sIf (mNot (mTest (mIsi "tuple" (mVal (mVar 0)))))
  (sRet (ret (.bool false)))
  sNx)
  (sSeq (sFor (mIt (mVar 0)) (gNm 1) b0_law_is_sum)
  (sRet (mBin eqE (mVal c0_law_is_sum) (mVal (mLst mA0))))))
abbrev s__law_near : Stmt := topS 20
def ms_law_near (rec_ : List PyData → Option (PyData × List PyData)) : List PyData → Option (PyData × List PyData) := mDef .frz [.src, .frz, .frz] 5
  (sSeq (sIf (mAnd (mTest (mCall .frz 1 m_law_is_int (mA (mVal (mVar 1)) mA0))) (mTest (mBin gtD (mVal (mCallS .frz .src m_law_pick 0 1 (mA (mVal (ret (.int 3))) mA0))) (mVal (ret (.int 0))))))
  (sRet (mBin addD (mVal (mVar 1)) (mVal (mCallS .frz .src m_law_of 0 1 (mA (mVal (mLst (mA (mVal (ret (.int 1))) (mA (mVal (mUn negD (mVal (ret (.int 1))))) (mA (mVal (ret (.int 2))) mA0))))) mA0)))))
  sNx)
  (sSeq (sIf (mOr (mNot (mTest (mIsi "tuple" (mVal (mVar 1))))) (mOr (mTest (mBin eqE (mVal (mVar 1)) (mVal (mTup mA0)))) (mTest (mBin eqE (mVal (mCallS .frz .src m_law_pick 0 1 (mA (mVal (ret (.int 7))) mA0))) (mVal (ret (.int 0)))))))
  (sRet (mCallS .frz .src m_law_of 0 1 (mA (mVal (mVar 2)) mA0)))
  sNx)
  (sSeq (sParK [3, 4] (mF (mCallS .frz .src m_law_pick 0 1 (mA (mVal (mCallB lenD (mA (mVal (mVar 1)) mA0))) mA0)) (mF (mCallS .frz .src m_law_pick 0 1 (mA (mVal (ret (.int 6))) mA0)) mF0)))
  (sSeq (sIf (mTest (mBin ltD (mVal (mVar 4)) (mVal (ret (.int 4)))))
  (sRet (mBin addD (mVal (mBin addD (mVal (mSl (mVal (mVar 1)) mNoPart (mPart (mVar 3)))) (mVal (mTup (mA (mVal (mCallS .frz .src rec_ 0 2 (mA (mVal (mBin itemD (mVal (mVar 1)) (mVal (mVar 3)))) (mA (mVal (mVar 2)) mA0)))) mA0))))) (mVal (mSl (mVal (mVar 1)) (mPart (mBin addD (mVal (mVar 3)) (mVal (ret (.int 1))))) mNoPart))))
  sNx)
  (sRet (mCallS .frz .src m_law_of 0 1 (mA (mVal (mLst (mA (mVal (mBin addD (mVal (mSl (mVal (mVar 1)) mNoPart (mPart (mVar 3)))) (mVal (mSl (mVal (mVar 1)) (mPart (mBin addD (mVal (mVar 3)) (mVal (ret (.int 1))))) mNoPart)))) (mA (mVal (mBin addD (mVal (mSl (mVal (mVar 1)) mNoPart (mPart (mBin addD (mVal (mVar 3)) (mVal (ret (.int 1))))))) (mVal (mSl (mVal (mVar 1)) (mPart (mVar 3)) mNoPart)))) (mA (mVal (mRevT (mVal (mVar 1)) mNoPart)) (mA (mVal (mCallB listD (mA (mVal (mVar 1)) mA0))) mA0)))))) mA0)))))))
def m_law_near : List PyData → Option (PyData × List PyData) := recM ms_law_near 8
abbrev s_law : Stmt := topS 21
def c0_law : M PyData := mComp (mIt (mRevT (mVal (mVar 11)) mNoPart)) (gTp 2 (gCn (gNm 17) (gCn (gNm 18) gNl))) mYes (mTup (mA (mVal (mBin subD (mVal (ret (.int 0))) (mVal (mVar 17)))) (mA (mVal (mVar 18)) mA0))) [17, 18]
def c1_law : M PyData := mComp (mIt (mVar 11)) (gTp 2 (gCn (gNm 17) (gCn (gNm 18) gNl))) mYes (mVar 18) [17, 18]
def b0_law : B := (sExpr (mApp 8 (mCallS .frz .src m_law_near 1 2 (mA (mVal (mVar 11)) (mA (mVal (mVar 2)) mA0)))))
def b1_law : B := (sSeq (sAsg (mCallB reprD (mA (mVal (mVar 10)) mA0)) (gNm 16))
  (sIf (mOr (mTest (mBin neD (mVal (mCallB reprD (mA (mVal (mCall .frz 1 m_is_power_sum (mA (mVal (mVar 10)) mA0))) mA0))) (mVal (mCallB reprD (mA (mVal (mCall .frz 1 m_law_is_sum (mA (mVal (mVar 10)) mA0))) mA0))))) (mTest (mBin neD (mVal (mCallB reprD (mA (mVal (mVar 10)) mA0))) (mVal (mVar 16)))))
  (sRet (ret (.bool false)))
  sNx))
def b2_law : B := (sSeq (sParK [11, 12, 13] (mF (mCallS .pt .src m_law_sum 1 2 (mA (mVal (ret (.int 5))) (mA (mVal (ret (.int 12))) mA0))) (mF (mCallS .pt .src m_law_sum 1 2 (mA (mVal (ret (.int 4))) (mA (mVal (ret (.int 9))) mA0))) (mF (mCallS .pt .src m_law_sum 1 2 (mA (mVal (ret (.int 3))) (mA (mVal (ret (.int 1000))) mA0))) mF0))))
  (sSeq (sParK [14, 15] (mF (mCallB reprD (mA (mVal (mLst (mA (mVal (mVar 11)) (mA (mVal (mVar 12)) (mA (mVal (mVar 13)) mA0))))) mA0)) (mF (mBin subD (mVal (mCallS .frz .src m_law_pick 1 1 (mA (mVal (ret (.int 9))) mA0))) (mVal (ret (.int 4)))) mF0)))
  (sSeq (sIf (mTest (mBin neD (mVal (mCallB reprD (mA (mVal (mCall .pt 3 m_added_powers (mA (mVal (mVar 11)) (mA (mVal (mVar 12)) (mA (mVal (mVar 15)) mA0))))) mA0))) (mVal (mCallB reprD (mA (mVal (mCall .frz 3 m_law_added (mA (mVal (mVar 11)) (mA (mVal (mVar 12)) (mA (mVal (mVar 15)) mA0))))) mA0)))))
  (sRet (ret (.bool false)))
  sNx)
  (sSeq (sAsg (mCall .frz 2 m_law_times (mA (mVal (mVar 11)) (mA (mVal (mVar 12)) mA0))) (gNm 4))
  (sSeq (sIf (mOr (mTest (mBin neD (mVal (mCallB reprD (mA (mVal (mCall .frz 2 m_multiplied_powers (mA (mVal (mVar 11)) (mA (mVal (mVar 12)) mA0)))) mA0))) (mVal (mCallB reprD (mA (mVal (mVar 4)) mA0))))) (mTest (mBin neD (mVal (mCall .frz 2 m_multiplied_powers (mA (mVal (mVar 12)) (mA (mVal (mVar 11)) mA0)))) (mVal (mVar 4)))))
  (sRet (ret (.bool false)))
  sNx)
  (sSeq (sIf (mTest (mBin neD (mVal (mCall .frz 2 m_multiplied_powers (mA (mVal (mVar 4)) (mA (mVal (mVar 13)) mA0)))) (mVal (mCall .frz 2 m_multiplied_powers (mA (mVal (mVar 11)) (mA (mVal (mCall .frz 2 m_multiplied_powers (mA (mVal (mVar 12)) (mA (mVal (mVar 13)) mA0)))) mA0))))))
  (sRet (ret (.bool false)))
  sNx)
  (sSeq (sAsg (mCallB tupleD (mA (mVal c0_law) mA0)) (gNm 5))
  (sSeq (sIf (mOr (mTest (mBin neD (mVal (mCallB reprD (mA (mVal (mCall .frz 1 m_turned_powers (mA (mVal (mVar 11)) mA0))) mA0))) (mVal (mCallB reprD (mA (mVal (mVar 5)) mA0))))) (mTest (mBin neD (mVal (mCall .frz 1 m_turned_powers (mA (mVal (mVar 4)) mA0))) (mVal (mCall .frz 2 m_law_times (mA (mVal (mVar 5)) (mA (mVal (mCall .frz 1 m_turned_powers (mA (mVal (mVar 12)) mA0))) mA0)))))))
  (sRet (ret (.bool false)))
  sNx)
  (sSeq (sAsg (mCallB sumD (mA (mVal c1_law) mA0)) (gNm 6))
  (sSeq (sIf (mOr (mTest (mBin neD (mVal (mCallB reprD (mA (mVal (mCall .frz 1 m_sum_at_one (mA (mVal (mVar 11)) mA0))) mA0))) (mVal (mCallB reprD (mA (mVal (mVar 6)) mA0))))) (mTest (mBin neD (mVal (mCall .frz 1 m_sum_at_one (mA (mVal (mVar 4)) mA0))) (mVal (mBin mulD (mVal (mVar 6)) (mVal (mCall .frz 1 m_sum_at_one (mA (mVal (mVar 12)) mA0))))))))
  (sRet (ret (.bool false)))
  sNx)
  (sSeq (sAsg (mCallS .frz .src m_law_pick 1 1 (mA (mVal (ret (.int 13))) mA0)) (gNm 7))
  (sSeq (sIf (mTest (mBin neD (mVal (mCallB reprD (mA (mVal (mCall .frz 1 m_loops_taken (mA (mVal (mVar 7)) mA0))) mA0))) (mVal (mCallB reprD (mA (mVal (mCall .frz 1 m_law_loops (mA (mVal (mVar 7)) mA0))) mA0)))))
  (sRet (ret (.bool false)))
  sNx)
  (sSeq (sAsg (mLst (mA (mVal (mVar 11)) (mA (mVal (mCallB listD (mA (mVal (mVar 11)) mA0))) (mA (mVal (mRevT (mVal (mVar 11)) mNoPart)) (mA (mVal (mBin addD (mVal (mVar 11)) (mVal (mVar 11)))) (mA (mVal (ret .none)) (mA (mVal (mTup mA0)) (mA (mVal (mTup (mA (mVal (mTup (mA (mVal (ret (.int 0))) (mA (mVal (ret (.int 0))) mA0)))) mA0))) (mA (mVal (mTup (mA (mVal (mTup (mA (mVal (ret (.int 0))) (mA (mVal (ret (.bool true))) mA0)))) mA0))) (mA (mVal (mTup (mA (mVal (mTup (mA (mVal (ret (.str "0"))) (mA (mVal (ret (.int 1))) mA0)))) mA0))) mA0)))))))))) (gNm 8))
  (sSeq (sFor (mRng rg1 (mA (mVal (ret (.int 6))) mA0)) (gNm 9) b0_law)
  (sSeq (sFor (mIt (mTake 8)) (gNm 10) b1_law)
  (sIf (mTest (mBin neD (mVal (mCallB reprD (mA (mVal (mLst (mA (mVal (mVar 11)) (mA (mVal (mVar 12)) (mA (mVal (mVar 13)) mA0))))) mA0))) (mVal (mVar 14))))
  (sRet (ret (.bool false)))
  sNx))))))))))))))))
def m_law : List PyData → Option (PyData × List PyData) := mDef .frz [.frz] 19
  (sSeq (sAsg (mCall .src 1 m_law_source (mA (mVal (mVar 0)) mA0)) (gNm 1))
  (sSeq (sAsg (mLst (mA (mVal (ret .none)) (mA (mVal (ret (.bool true))) (mA (mVal (ret (.int 0))) (mA (mVal (ret (.int 1))) (mA (mVal (mUn negD (mVal (ret (.int 1))))) (mA (mVal (ret (.str "0"))) (mA (mVal (mTup mA0)) (mA (mVal (mTup (mA (mVal (ret (.int 0))) mA0))) (mA (mVal (mTup (mA (mVal (ret (.int 0))) (mA (mVal (ret (.int 0))) mA0)))) (mA (mVal (mTup (mA (mVal (ret (.int 3))) (mA (mVal (ret (.int 1))) mA0)))) (mA (mVal (mLst (mA (mVal (ret (.int 0))) mA0))) (mA (mVal (ret (.dict []))) (mA (mVal (mBin powD (mVal (ret (.int 10))) (mVal (ret (.int 20))))) mA0)))))))))))))) (gNm 2))
  (sSeq (sFor (mRng rg1 (mA (mVal (ret (.int 5))) mA0)) (gNm 3) b2_law)
  (sRet (mAndV (mBin eqE (mVal (ret top_LOOP)) (mVal (mTup (mA (mVal (mTup (mA (mVal (mUn negD (mVal (ret (.int 2))))) (mA (mVal (mUn negD (mVal (ret (.int 1))))) mA0)))) (mA (mVal (mTup (mA (mVal (ret (.int 2))) (mA (mVal (mUn negD (mVal (ret (.int 1))))) mA0)))) mA0))))) (mBin eqE (mVal (mCall .frz 1 m_loops_taken (mA (mVal (ret (.int 2))) mA0))) (mVal (mTup (mA (mVal (mTup (mA (mVal (mUn negD (mVal (ret (.int 4))))) (mA (mVal (ret (.int 1))) mA0)))) (mA (mVal (mTup (mA (mVal (ret (.int 0))) (mA (mVal (ret (.int 2))) mA0)))) (mA (mVal (mTup (mA (mVal (ret (.int 4))) (mA (mVal (ret (.int 1))) mA0)))) mA0)))))))))))
/-! ### derivations -/
section
variable {P : Program} {w : World} {K : PySem.W.Frag} {mg : Str → Option Value} {base : Heap}
theorem sc_is_power_sum : FnScope ["value", "pair", "k", "one"] ["value"] (defScope s_is_power_sum) := ⟨rfl, rfl, rfl, by decide +kernel, rfl, by decide +kernel, by decide +kernel⟩
theorem nd_is_power_sum : (["value", "pair", "k", "one"] : List Str).Nodup := sc_is_power_sum.nd
theorem ok_is_power_sum {f : Addr} {fd : FuncData} {k : Nat} (F : Fun K "is_power_sum" "is_power_sum" s_is_power_sum f fd) (hm : mg "is_power_sum" = some (.ref f)) (z_all : mg "all" = none) (z_bool : mg "bool" = none) (z_int : mg "int" = none) (z_isinstance : mg "isinstance" = none) (z_len : mg "len" = none) (z_range : mg "range" = none) (z_tuple : mg "tuple" = none) : FnD P w K mg base (k + 1) "is_power_sum" [.frz] .frz m_is_power_sum := by
  refine FnD.of_body (N := ["value", "pair", "k", "one"]) (ps := ["value"]) (ks := [.frz, .frz, .frz, .frz]) (own := []) F hm (F.binds fun _ _ _ _ _ _ us hl => match us, hl with | [_], _ => rfl) sc_is_power_sum rfl rfl rfl (hown_of rfl) fun cdv A outer s H E vs room guards hlen => ?_
  exact (ss_cons (sd_if (td_not (td_val (ed_isi (c := "tuple") rfl rfl z_isinstance rfl z_tuple (by decide +kernel) (rd_val (ed_var 0)))))
    (ss_one (sd_ret ed_bl))
    ss_nil)
    (ss_cons (sd_for PassesOwn.never rfl (id_seq (ed_var 0)) (gd_name nd_is_power_sum rfl (.inl rfl) rfl (psOk_pins rfl) (vs := [1]) (by decide))
    (ss_cons (sd_if (wd_pt (wd_or (td_not (td_val (ed_isi (c := "tuple") rfl rfl z_isinstance rfl z_tuple (by decide +kernel) (rd_val (ed_var 1))))) (wd_or1 (td_cmp (o_ne (hu64 room)) (rd_val (ed_callB f_len rfl z_len PySem.boot_len (ad_cons (rd_val (ed_var 1)) ad_nil))) (rd_val ed_int) rfl))))
    (ss_one (sd_ret ed_bl))
    ss_nil)
    (ss_one (sd_if (wd_pt (wd_or (td_not (td_val (ed_callB (f_all rfl) rfl z_all (by decide +kernel) (ad_cons (rd_val (ed_comp rfl nd_is_power_sum (id_seq (ed_var 1)) (own := [("one", 3)]) (blkOk_by rfl) (fun _ _ _ _ _ => (gd_name nd_is_power_sum rfl (.inl rfl) rfl (psOk_pins rfl) (vs := [3]) (by decide))) (fun _ _ _ _ _ => ptd_nil) (fun _ _ _ _ _ => (ed_and (ed_isi (c := "int") rfl rfl z_isinstance rfl z_int (by decide +kernel) (rd_val (ed_var 3))) (ed_one (ed_not (ed_isi (c := "bool") rfl rfl z_isinstance rfl z_bool (by decide +kernel) (rd_val (ed_var 3))))))) (frzAll_pins rfl))) ad_nil)))) (wd_or1 (td_cmp (o_eqE (hu64 room)) (rd_val (ed_ix (rd_val (ed_var 1)) (rd_val ed_int) (fun _ _ => rfl))) (rd_val ed_int) rfl))))
    (ss_one (sd_ret ed_bl))
    ss_nil))))
    (ss_one (sd_ret (ed_cmp (o_eqE (hu64 room)) (rd_val (ed_comp rfl nd_is_power_sum (id_range2 rfl z_range (ad_cons (rd_val ed_int) (ad_cons (rd_val (ed_callB f_len rfl z_len PySem.boot_len (ad_cons (rd_val (ed_var 0)) ad_nil))) ad_nil))) (own := [("k", 2)]) (blkOk_by rfl) (fun _ _ _ _ _ => (gd_name nd_is_power_sum rfl (.inl rfl) rfl (psOk_pins rfl) (vs := [2]) (by decide))) (fun _ _ _ _ _ => (ptd_one (td_cmp o_le (rd_val (ed_ix (rd_val (ed_ix (rd_val (ed_var 0)) (rd_val (ed_var 2)) (fun _ _ => rfl))) (rd_val ed_int) (fun _ _ => rfl))) (rd_val (ed_ix (rd_val (ed_ix (rd_val (ed_var 0)) (rd_val (ed_bin o_sub (rd_val (ed_var 2)) (rd_val ed_int))) (fun _ _ => rfl))) (rd_val ed_int) (fun _ _ => rfl))) rfl))) (fun _ _ _ _ _ => (ed_var 2)) (frzAll_pins rfl))) (rd_val (ed_lst ad_nil)) rfl)))))
theorem sc_told_powers : FnScope ["numbers", "power"] ["numbers"] (defScope s_told_powers) := ⟨rfl, rfl, rfl, by decide +kernel, rfl, by decide +kernel, by decide +kernel⟩
theorem nd_told_powers : (["numbers", "power"] : List Str).Nodup := sc_told_powers.nd
theorem ok_told_powers {f : Addr} {fd : FuncData} {k : Nat} (F : Fun K "told_powers" "told_powers" s_told_powers f fd) (hm : mg "told_powers" = some (.ref f)) (z_sorted : mg "sorted" = none) (z_tuple : mg "tuple" = none) : FnD P w K mg base (k + 1) "told_powers" [.frz] .pt m_told_powers := by
  refine FnD.of_body (N := ["numbers", "power"]) (ps := ["numbers"]) (ks := [.frz, .frz]) (own := []) F hm (F.binds fun _ _ _ _ _ _ us hl => match us, hl with | [_], _ => rfl) sc_told_powers rfl rfl rfl (hown_of rfl) fun cdv A outer s H E vs room guards hlen => ?_
  exact (ss_one (sd_retF (fd_tupleP rfl rfl z_tuple (rd_val (ed_comp rfl nd_told_powers (id_seq (ed_callB (f_sortedC rfl (hu64 room)) rfl z_sorted (by decide +kernel) (ad_cons (rd_val (ed_var 0)) ad_nil))) (own := [("power", 1)]) (blkOk_by rfl) (fun _ _ _ _ _ => (gd_name nd_told_powers rfl (.inl rfl) rfl (psOk_pins rfl) (vs := [1]) (by decide))) (fun _ _ _ _ _ => (ptd_one (td_cmp (o_ne (hu64 room)) (rd_val (ed_fGet (hu1 room) rfl rfl (ed_var 1) (fun _ _ => rfl))) (rd_val ed_int) rfl))) (fun _ _ _ _ _ => (ed_tup (ad_cons (rd_val (ed_var 1)) (ad_cons (rd_val (ed_fGet (hu1 room) rfl rfl (ed_var 1) (fun _ _ => rfl))) ad_nil)))) (frzAll_pins rfl))))))
theorem sc_added_powers : FnScope ["one", "other", "times", "found", "power", "number"] ["one", "other", "times"] (defScope s_added_powers) := ⟨rfl, rfl, rfl, by decide +kernel, rfl, by decide +kernel, by decide +kernel⟩
theorem nd_added_powers : (["one", "other", "times", "found", "power", "number"] : List Str).Nodup := sc_added_powers.nd
theorem ok_added_powers {f : Addr} {fd : FuncData} {k : Nat} (F : Fun K "added_powers" "added_powers" s_added_powers f fd) (hm : mg "added_powers" = some (.ref f)) (D_told_powers : FnD P w K mg base k "told_powers" [.frz] .pt m_told_powers) (z_dict : mg "dict" = none) : FnD P w K mg base (k + 1) "added_powers" [.pt, .frz, .frz] .pt m_added_powers := by
  refine FnD.of_body (N := ["one", "other", "times", "found", "power", "number"]) (ps := ["one", "other", "times"]) (ks := [.pt, .frz, .frz, .dk, .frz, .frz]) (own := [0]) F hm (F.binds fun _ _ _ _ _ _ us hl => match us, hl with | [_, _, _], _ => rfl) sc_added_powers rfl rfl rfl (hown_of rfl) fun cdv A outer s H E vs room guards hlen => ?_
  exact (ss_cons (sd_own nd_added_powers rfl (.inl rfl) rfl (by decide) (psOk_pins rfl) (fd_dictT 0 rfl rfl rfl z_dict rfl))
    (ss_cons (sd_for PassesOwn.never rfl (id_seq (ed_var 1)) (gd_tup rfl (gsd_cons (gd_name nd_added_powers rfl (.inl rfl) rfl (psOk_pins rfl) (vs := [4, 5]) (by decide)) (gsd_cons (gd_name nd_added_powers rfl (.inl rfl) rfl (psOk_pins rfl) (vs := [4, 5]) (by decide)) gsd_nil)))
    (ss_one (sd_dPut (hu1 room) rfl rfl (ed_bin o_add (rd_val (ed_dGet2 (hu1 room) rfl rfl (ed_var 4) ed_int ⟨rfl, rfl, rfl, rfl⟩)) (rd_val (ed_bin o_mul (rd_val (ed_var 2)) (rd_val (ed_var 5))))) (ed_var 4))))
    (ss_one (sd_retF (fd_call (n := 1) D_told_powers room guards rfl pass0 (ad_cons (rd_slot 3) ad_nil))))))
theorem sc_multiplied_powers : FnScope ["one", "other", "found", "power", "number", "late", "times"] ["one", "other"] (defScope s_multiplied_powers) := ⟨rfl, rfl, rfl, by decide +kernel, rfl, by decide +kernel, by decide +kernel⟩
theorem nd_multiplied_powers : (["one", "other", "found", "power", "number", "late", "times"] : List Str).Nodup := sc_multiplied_powers.nd
theorem ok_multiplied_powers {f : Addr} {fd : FuncData} {k : Nat} (F : Fun K "multiplied_powers" "multiplied_powers" s_multiplied_powers f fd) (hm : mg "multiplied_powers" = some (.ref f)) (D_told_powers : FnD P w K mg base k "told_powers" [.frz] .pt m_told_powers) : FnD P w K mg base (k + 1) "multiplied_powers" [.frz, .frz] .frz m_multiplied_powers := by
  refine FnD.of_body (N := ["one", "other", "found", "power", "number", "late", "times"]) (ps := ["one", "other"]) (ks := [.frz, .frz, .dk, .frz, .frz, .frz, .frz]) (own := []) F hm (F.binds fun _ _ _ _ _ _ us hl => match us, hl with | [_, _], _ => rfl) sc_multiplied_powers rfl rfl rfl (hown_of rfl) fun cdv A outer s H E vs room guards hlen => ?_
  exact (ss_cons (sd_own nd_multiplied_powers rfl (.inl rfl) rfl (by decide) (psOk_pins rfl) fd_dk0)
    (ss_cons (sd_for PassesOwn.never rfl (id_seq (ed_var 0)) (gd_tup rfl (gsd_cons (gd_name nd_multiplied_powers rfl (.inl rfl) rfl (psOk_pins rfl) (vs := [3, 4]) (by decide)) (gsd_cons (gd_name nd_multiplied_powers rfl (.inl rfl) rfl (psOk_pins rfl) (vs := [3, 4]) (by decide)) gsd_nil)))
    (ss_one (sd_for PassesOwn.never rfl (id_seq (ed_var 1)) (gd_tup rfl (gsd_cons (gd_name nd_multiplied_powers rfl (.inl rfl) rfl (psOk_pins rfl) (vs := [5, 6]) (by decide)) (gsd_cons (gd_name nd_multiplied_powers rfl (.inl rfl) rfl (psOk_pins rfl) (vs := [5, 6]) (by decide)) gsd_nil)))
    (ss_one (sd_dPut (hu1 room) rfl rfl (ed_bin o_add (rd_val (ed_dGet2 (hu1 room) rfl rfl (ed_bin o_add (rd_val (ed_var 3)) (rd_val (ed_var 5))) ed_int ⟨rfl, rfl, rfl, rfl⟩)) (rd_val (ed_bin o_mul (rd_val (ed_var 4)) (rd_val (ed_var 6))))) (ed_bin o_add (rd_val (ed_var 3)) (rd_val (ed_var 5))))))))
    (ss_one (sd_ret (ed_call (n := 1) D_told_powers room guards rfl pass0 (ad_cons (rd_slot 2) ad_nil))))))
theorem sc_turned_powers : FnScope ["one", "power", "number"] ["one"] (defScope s_turned_powers) := ⟨rfl, rfl, rfl, by decide +kernel, rfl, by decide +kernel, by decide +kernel⟩
theorem nd_turned_powers : (["one", "power", "number"] : List Str).Nodup := sc_turned_powers.nd
theorem ok_turned_powers {f : Addr} {fd : FuncData} {k : Nat} (F : Fun K "turned_powers" "turned_powers" s_turned_powers f fd) (hm : mg "turned_powers" = some (.ref f)) (z_sorted : mg "sorted" = none) (z_tuple : mg "tuple" = none) : FnD P w K mg base (k + 1) "turned_powers" [.frz] .frz m_turned_powers := by
  refine FnD.of_body (N := ["one", "power", "number"]) (ps := ["one"]) (ks := [.frz, .frz, .frz]) (own := []) F hm (F.binds fun _ _ _ _ _ _ us hl => match us, hl with | [_], _ => rfl) sc_turned_powers rfl rfl rfl (hown_of rfl) fun cdv A outer s H E vs room guards hlen => ?_
  exact (ss_one (sd_ret (ed_callTy f_tuple rfl z_tuple (by decide +kernel) (ad_cons (rd_val (ed_callB (f_sortedC rfl (hu64 room)) rfl z_sorted (by decide +kernel) (ad_cons (rd_val (ed_comp rfl nd_turned_powers (id_seq (ed_var 0)) (own := [("power", 1), ("number", 2)]) (blkOk_by rfl) (fun _ _ _ _ _ => (gd_tup rfl (gsd_cons (gd_name nd_turned_powers rfl (.inl rfl) rfl (psOk_pins rfl) (vs := [1, 2]) (by decide)) (gsd_cons (gd_name nd_turned_powers rfl (.inl rfl) rfl (psOk_pins rfl) (vs := [1, 2]) (by decide)) gsd_nil)))) (fun _ _ _ _ _ => ptd_nil) (fun _ _ _ _ _ => (ed_tup (ad_cons (rd_val (ed_un o_neg (rd_val (ed_var 1)))) (ad_cons (rd_val (ed_var 2)) ad_nil)))) (frzAll_pins rfl))) ad_nil))) ad_nil))))
theorem sc_loops_taken : FnScope ["times", "found", "lap"] ["times"] (defScope s_loops_taken) := ⟨rfl, rfl, rfl, by decide +kernel, rfl, by decide +kernel, by decide +kernel⟩
theorem nd_loops_taken : (["times", "found", "lap"] : List Str).Nodup := sc_loops_taken.nd
theorem ok_loops_taken {f : Addr} {fd : FuncData} {k : Nat} (F : Fun K "loops_taken" "loops_taken" s_loops_taken f fd) (hm : mg "loops_taken" = some (.ref f)) (D_multiplied_powers : FnD P w K mg base k "multiplied_powers" [.frz, .frz] .frz m_multiplied_powers) {a_LOOP : Addr} (m_LOOP : mg "LOOP" = some (.ref a_LOOP)) (r_LOOP : ∀ H O, Rep K H O top_LOOP (.ref a_LOOP)) (z_range : mg "range" = none) : FnD P w K mg base (k + 1) "loops_taken" [.frz] .frz m_loops_taken := by
  refine FnD.of_body (N := ["times", "found", "lap"]) (ps := ["times"]) (ks := [.frz, .frz, .frz]) (own := []) F hm (F.binds fun _ _ _ _ _ _ us hl => match us, hl with | [_], _ => rfl) sc_loops_taken rfl rfl rfl (hown_of rfl) fun cdv A outer s H E vs room guards hlen => ?_
  exact (ss_cons (sd_set nd_loops_taken rfl (.inl rfl) rfl (psOk_pins rfl) (ed_tup (ad_cons (rd_val (ed_tup (ad_cons (rd_val ed_int) (ad_cons (rd_val ed_int) ad_nil)))) ad_nil)))
    (ss_cons (sd_for PassesOwn.never rfl (id_range1 rfl z_range (ad_cons (rd_val (ed_var 0)) ad_nil)) (gd_name nd_loops_taken rfl (.inl rfl) rfl (psOk_pins rfl) (vs := [2]) (by decide))
    (ss_one (sd_set nd_loops_taken rfl (.inl rfl) rfl (psOk_pins rfl) (ed_call (n := 2) D_multiplied_powers room guards rfl pass0 (ad_cons (rd_val (ed_var 1)) (ad_cons (rd_val (ed_top rfl m_LOOP r_LOOP)) ad_nil))))))
    (ss_one (sd_ret (ed_var 1)))))
theorem sc_sum_at_one : FnScope ["one", "power", "number"] ["one"] (defScope s_sum_at_one) := ⟨rfl, rfl, rfl, by decide +kernel, rfl, by decide +kernel, by decide +kernel⟩
theorem nd_sum_at_one : (["one", "power", "number"] : List Str).Nodup := sc_sum_at_one.nd
theorem ok_sum_at_one {f : Addr} {fd : FuncData} {k : Nat} (F : Fun K "sum_at_one" "sum_at_one" s_sum_at_one f fd) (hm : mg "sum_at_one" = some (.ref f)) (z_sum : mg "sum" = none) : FnD P w K mg base (k + 1) "sum_at_one" [.frz] .frz m_sum_at_one := by
  refine FnD.of_body (N := ["one", "power", "number"]) (ps := ["one"]) (ks := [.frz, .frz, .frz]) (own := []) F hm (F.binds fun _ _ _ _ _ _ us hl => match us, hl with | [_], _ => rfl) sc_sum_at_one rfl rfl rfl (hown_of rfl) fun cdv A outer s H E vs room guards hlen => ?_
  exact (ss_one (sd_ret (ed_callB (f_sum rfl) rfl z_sum (by decide +kernel) (ad_cons (rd_val (ed_comp rfl nd_sum_at_one (id_seq (ed_var 0)) (own := [("power", 1), ("number", 2)]) (blkOk_by rfl) (fun _ _ _ _ _ => (gd_tup rfl (gsd_cons (gd_name nd_sum_at_one rfl (.inl rfl) rfl (psOk_pins rfl) (vs := [1, 2]) (by decide)) (gsd_cons (gd_name nd_sum_at_one rfl (.inl rfl) rfl (psOk_pins rfl) (vs := [1, 2]) (by decide)) gsd_nil)))) (fun _ _ _ _ _ => ptd_nil) (fun _ _ _ _ _ => (ed_var 2)) (frzAll_pins rfl))) ad_nil))))
theorem sc__law_source : FnScope ["script", "mixed", "cell"] ["script"] (defScope s__law_source) := ⟨rfl, rfl, rfl, by decide +kernel, rfl, by decide +kernel, by decide +kernel⟩
theorem nd__law_source : (["script", "mixed", "cell"] : List Str).Nodup := sc__law_source.nd
theorem ok__law_source {f : Addr} {fd : FuncData} {k : Nat} (F : Fun K "_law_source" "_law_source" s__law_source f fd) (hm : mg "_law_source" = some (.ref f)) (z_abs : mg "abs" = none) (z_int : mg "int" = none) : FnD P w K mg base (k + 1) "_law_source" [.frz] .src m_law_source := by
  refine FnD.of_body (N := ["script", "mixed", "cell"]) (ps := ["script"]) (ks := [.frz, .frz, .frz]) (own := []) F hm (F.binds fun _ _ _ _ _ _ us hl => match us, hl with | [_], _ => rfl) sc__law_source rfl rfl rfl (hown_of rfl) fun cdv A outer s H E vs room guards hlen => ?_
  exact (ss_cons (sd_set nd__law_source rfl (.inl rfl) rfl (psOk_pins rfl) ed_int)
    (ss_cons (sd_for PassesOwn.never rfl (id_seq (ed_var 0)) (gd_name nd__law_source rfl (.inl rfl) rfl (psOk_pins rfl) (vs := [2]) (by decide))
    (ss_one (sd_set nd__law_source rfl (.inl rfl) rfl (psOk_pins rfl) (ed_bin o_mod (rd_val (ed_callTy f_int rfl z_int (by decide +kernel) (ad_cons (rd_val (ed_bin o_add (rd_val (ed_bin o_add (rd_val (ed_bin o_mul (rd_val (ed_var 1)) (rd_val ed_int))) (rd_val (ed_bin o_mul (rd_val (ed_var 2)) (rd_val ed_int))))) (rd_val ed_int))) ad_nil))) (rd_val ed_int)))))
    (ss_one (sd_retF (fd_srcNew (fd_revL (rd_val (ed_comp rfl nd__law_source (id_seq (ed_var 0)) (own := [("cell", 2)]) (blkOk_by rfl) (fun _ _ _ _ _ => (gd_name nd__law_source rfl (.inl rfl) rfl (psOk_pins rfl) (vs := [2]) (by decide))) (fun _ _ _ _ _ => ptd_nil) (fun _ _ _ _ _ => (ed_callB f_abs rfl z_abs (by decide +kernel) (ad_cons (rd_val (ed_var 2)) ad_nil))) (frzAll_pins rfl)))) ed_int (ed_var 1) ed_int)))))
theorem sc__law_pick : FnScope ["source", "many", "left", "mixed"] ["source", "many"] (defScope s__law_pick) := ⟨rfl, rfl, rfl, by decide +kernel, rfl, by decide +kernel, by decide +kernel⟩
theorem nd__law_pick : (["source", "many", "left", "mixed"] : List Str).Nodup := sc__law_pick.nd
theorem ok__law_pick {f : Addr} {fd : FuncData} {k : Nat} (F : Fun K "_law_pick" "_law_pick" s__law_pick f fd) (hm : mg "_law_pick" = some (.ref f)) (z_int : mg "int" = none) (z_len : mg "len" = none) (z_max : mg "max" = none) : FnD P w K mg base (k + 1) "_law_pick" [.src, .frz] .frz m_law_pick := by
  refine FnD.of_body (N := ["source", "many", "left", "mixed"]) (ps := ["source", "many"]) (ks := [.src, .frz, .frz, .frz]) (own := [0]) F hm (F.binds fun _ _ _ _ _ _ us hl => match us, hl with | [_, _], _ => rfl) sc__law_pick rfl rfl rfl (hown_of rfl) fun cdv A outer s H E vs room guards hlen => ?_
  exact (ss_cons (sd_while PassesOwn.never (wd_pt (wd_and (td_cmp o_gt (rd_val (ed_var 1)) (rd_val ed_int) rfl) (wd_and (td_cmp o_lt (rd_val (ed_srcGet .left (hu1 room) rfl rfl)) (rd_val ed_int) rfl) (wd_and1 (td_cmp o_gt (rd_val (ed_srcLen (hu1 room) rfl z_len rfl rfl)) (rd_val ed_int) rfl)))))
    (ss_one (sd_srcPut .left (hu1 room) rfl rfl (ed_srcPop (hu1 room) rfl rfl))))
    (ss_cons (sd_set nd__law_pick rfl (.inl rfl) rfl (psOk_pins rfl) (ed_srcGet .left (hu1 room) rfl rfl))
    (ss_cons (sd_if (wd_pt (wd_or (td_cmp o_lt (rd_val (ed_var 1)) (rd_val ed_int) rfl) (wd_or1 (td_cmp o_gt (rd_val (ed_var 2)) (rd_val ed_int) rfl))))
    (ss_cons (sd_srcPut .left (hu1 room) rfl rfl (ed_bin o_fdiv (rd_val (ed_var 2)) (rd_val (ed_callB (f_max2 rfl) rfl z_max (by decide +kernel) (ad_cons (rd_val ed_int) (ad_cons (rd_val (ed_var 1)) ad_nil))))))
    (ss_one (sd_ret (ed_bin o_mod (rd_val (ed_callTy f_int rfl z_int (by decide +kernel) (ad_cons (rd_val (ed_var 2)) ad_nil))) (rd_val (ed_callB (f_max2 rfl) rfl z_max (by decide +kernel) (ad_cons (rd_val ed_int) (ad_cons (rd_val (ed_var 1)) ad_nil))))))))
    ss_nil)
    (ss_cons (sd_srcPut .turn (hu1 room) rfl rfl (ed_bin o_add (rd_val (ed_srcGet .turn (hu1 room) rfl rfl)) (rd_val ed_int)))
    (ss_cons (sd_set nd__law_pick rfl (.inl rfl) rfl (psOk_pins rfl) (ed_bin o_mod (rd_val (ed_callTy f_int rfl z_int (by decide +kernel) (ad_cons (rd_val (ed_bin o_add (rd_val (ed_srcGet .mixed (hu1 room) rfl rfl)) (rd_val (ed_bin o_mul (rd_val (ed_srcGet .turn (hu1 room) rfl rfl)) (rd_val ed_int))))) ad_nil))) (rd_val ed_int)))
    (ss_cons (sd_set nd__law_pick rfl (.inl rfl) rfl (psOk_pins rfl) (ed_bin o_mod (rd_val (ed_callTy f_int rfl z_int (by decide +kernel) (ad_cons (rd_val (ed_bin o_add (rd_val (ed_bin o_mul (rd_val (ed_var 3)) (rd_val (ed_var 3)))) (rd_val (ed_bin o_mul (rd_val (ed_srcGet .turn (hu1 room) rfl rfl)) (rd_val ed_int))))) ad_nil))) (rd_val ed_int)))
    (ss_cons (sd_srcPut .mixed (hu1 room) rfl rfl (ed_var 3))
    (ss_one (sd_ret (ed_bin o_mod (rd_val (ed_callTy f_int rfl z_int (by decide +kernel) (ad_cons (rd_val (ed_bin o_fdiv (rd_val (ed_var 3)) (rd_val ed_int))) ad_nil))) (rd_val (ed_var 1))))))))))))
theorem sc__law_of : FnScope ["source", "some"] ["source", "some"] (defScope s__law_of) := ⟨rfl, rfl, rfl, by decide +kernel, rfl, by decide +kernel, by decide +kernel⟩
theorem ok__law_of {f : Addr} {fd : FuncData} {k : Nat} (F : Fun K "_law_of" "_law_of" s__law_of f fd) (hm : mg "_law_of" = some (.ref f)) (D__law_pick : FnD P w K mg base k "_law_pick" [.src, .frz] .frz m_law_pick) (z_len : mg "len" = none) : FnD P w K mg base (k + 1) "_law_of" [.src, .frz] .frz m_law_of := by
  refine FnD.of_body (N := ["source", "some"]) (ps := ["source", "some"]) (ks := [.src, .frz]) (own := [0]) F hm (F.binds fun _ _ _ _ _ _ us hl => match us, hl with | [_, _], _ => rfl) sc__law_of rfl rfl rfl (hown_of rfl) fun cdv A outer s H E vs room guards hlen => ?_
  exact (ss_one (sd_ret (ed_ix (rd_val (ed_var 1)) (rd_val (ed_callS (n := 1) (i := 0) D__law_pick room guards rfl pass0 (by decide) rfl rfl (by first | exact .inl rfl | exact .inr (.inl rfl) | exact .inr (.inr rfl)) (ad_cons (rd_val (ed_callB f_len rfl z_len PySem.boot_len (ad_cons (rd_val (ed_var 1)) ad_nil))) ad_nil))) (fun _ _ => rfl))))
theorem sc__law_told : FnScope ["numbers", "power"] ["numbers"] (defScope s__law_told) := ⟨rfl, rfl, rfl, by decide +kernel, rfl, by decide +kernel, by decide +kernel⟩
theorem nd__law_told : (["numbers", "power"] : List Str).Nodup := sc__law_told.nd
theorem ok__law_told {f : Addr} {fd : FuncData} {k : Nat} (F : Fun K "_law_told" "_law_told" s__law_told f fd) (hm : mg "_law_told" = some (.ref f)) (z_sorted : mg "sorted" = none) (z_tuple : mg "tuple" = none) : FnD P w K mg base (k + 1) "_law_told" [.frz] .pt m_law_told := by
  refine FnD.of_body (N := ["numbers", "power"]) (ps := ["numbers"]) (ks := [.frz, .frz]) (own := []) F hm (F.binds fun _ _ _ _ _ _ us hl => match us, hl with | [_], _ => rfl) sc__law_told rfl rfl rfl (hown_of rfl) fun cdv A outer s H E vs room guards hlen => ?_
  exact (ss_one (sd_retF (fd_tupleP rfl rfl z_tuple (rd_val (ed_callB (f_sortedC rfl (hu64 room)) rfl z_sorted (by decide +kernel) (ad_cons (rd_val (ed_compD rfl nd__law_told rfl rfl (.inr (.inl rfl)) (own := [("power", 1)]) (blkOk_by rfl) (fun _ _ _ _ _ => (gd_name nd__law_told rfl (.inl rfl) rfl (psOk_pins rfl) (vs := [1]) (by decide))) (fun _ _ _ _ _ => (ptd_one (td_cmp (o_ne (hu64 room)) (rd_val (ed_fGet (hu1 room) rfl rfl (ed_var 1) (fun _ _ => rfl))) (rd_val ed_int) rfl))) (fun _ _ _ _ _ => (ed_tup (ad_cons (rd_val (ed_var 1)) (ad_cons (rd_val (ed_fGet (hu1 room) rfl rfl (ed_var 1) (fun _ _ => rfl))) ad_nil)))) (frzAll_pins rfl))) ad_nil))))))
theorem sc__law_added : FnScope ["one", "other", "times", "found", "power", "number"] ["one", "other", "times"] (defScope s__law_added) := ⟨rfl, rfl, rfl, by decide +kernel, rfl, by decide +kernel, by decide +kernel⟩
theorem nd__law_added : (["one", "other", "times", "found", "power", "number"] : List Str).Nodup := sc__law_added.nd
theorem ok__law_added {f : Addr} {fd : FuncData} {k : Nat} (F : Fun K "_law_added" "_law_added" s__law_added f fd) (hm : mg "_law_added" = some (.ref f)) (D__law_told : FnD P w K mg base k "_law_told" [.frz] .pt m_law_told) (z_dict : mg "dict" = none) : FnD P w K mg base (k + 1) "_law_added" [.pt, .frz, .frz] .frz m_law_added := by
  refine FnD.of_body (N := ["one", "other", "times", "found", "power", "number"]) (ps := ["one", "other", "times"]) (ks := [.pt, .frz, .frz, .dk, .frz, .frz]) (own := [0]) F hm (F.binds fun _ _ _ _ _ _ us hl => match us, hl with | [_, _, _], _ => rfl) sc__law_added rfl rfl rfl (hown_of rfl) fun cdv A outer s H E vs room guards hlen => ?_
  exact (ss_cons (sd_own nd__law_added rfl (.inl rfl) rfl (by decide) (psOk_pins rfl) (fd_dictT 0 rfl rfl rfl z_dict rfl))
    (ss_cons (sd_for PassesOwn.never rfl (id_seq (ed_var 1)) (gd_tup rfl (gsd_cons (gd_name nd__law_added rfl (.inl rfl) rfl (psOk_pins rfl) (vs := [4, 5]) (by decide)) (gsd_cons (gd_name nd__law_added rfl (.inl rfl) rfl (psOk_pins rfl) (vs := [4, 5]) (by decide)) gsd_nil)))
    (ss_one (sd_dPut (hu1 room) rfl rfl (ed_bin o_add (rd_val (ed_dGet2 (hu1 room) rfl rfl (ed_var 4) ed_int ⟨rfl, rfl, rfl, rfl⟩)) (rd_val (ed_bin o_mul (rd_val (ed_var 2)) (rd_val (ed_var 5))))) (ed_var 4))))
    (ss_one (sd_ret (ed_call (n := 1) D__law_told room guards rfl pass0 (ad_cons (rd_slot 3) ad_nil))))))
theorem sc__law_times : FnScope ["one", "other", "found", "power", "number", "late", "more"] ["one", "other"] (defScope s__law_times) := ⟨rfl, rfl, rfl, by decide +kernel, rfl, by decide +kernel, by decide +kernel⟩
theorem nd__law_times : (["one", "other", "found", "power", "number", "late", "more"] : List Str).Nodup := sc__law_times.nd
theorem ok__law_times {f : Addr} {fd : FuncData} {k : Nat} (F : Fun K "_law_times" "_law_times" s__law_times f fd) (hm : mg "_law_times" = some (.ref f)) (D__law_told : FnD P w K mg base k "_law_told" [.frz] .pt m_law_told) : FnD P w K mg base (k + 1) "_law_times" [.frz, .frz] .frz m_law_times := by
  refine FnD.of_body (N := ["one", "other", "found", "power", "number", "late", "more"]) (ps := ["one", "other"]) (ks := [.frz, .frz, .dk, .frz, .frz, .frz, .frz]) (own := []) F hm (F.binds fun _ _ _ _ _ _ us hl => match us, hl with | [_, _], _ => rfl) sc__law_times rfl rfl rfl (hown_of rfl) fun cdv A outer s H E vs room guards hlen => ?_
  exact (ss_cons (sd_own nd__law_times rfl (.inl rfl) rfl (by decide) (psOk_pins rfl) fd_dk0)
    (ss_cons (sd_for PassesOwn.never rfl (id_seq (ed_var 0)) (gd_tup rfl (gsd_cons (gd_name nd__law_times rfl (.inl rfl) rfl (psOk_pins rfl) (vs := [3, 4]) (by decide)) (gsd_cons (gd_name nd__law_times rfl (.inl rfl) rfl (psOk_pins rfl) (vs := [3, 4]) (by decide)) gsd_nil)))
    (ss_one (sd_for PassesOwn.never rfl (id_seq (ed_var 1)) (gd_tup rfl (gsd_cons (gd_name nd__law_times rfl (.inl rfl) rfl (psOk_pins rfl) (vs := [5, 6]) (by decide)) (gsd_cons (gd_name nd__law_times rfl (.inl rfl) rfl (psOk_pins rfl) (vs := [5, 6]) (by decide)) gsd_nil)))
    (ss_one (sd_dPut (hu1 room) rfl rfl (ed_bin o_add (rd_val (ed_dGet2 (hu1 room) rfl rfl (ed_bin o_add (rd_val (ed_var 3)) (rd_val (ed_var 5))) ed_int ⟨rfl, rfl, rfl, rfl⟩)) (rd_val (ed_bin o_mul (rd_val (ed_var 4)) (rd_val (ed_var 6))))) (ed_bin o_add (rd_val (ed_var 3)) (rd_val (ed_var 5))))))))
    (ss_one (sd_ret (ed_call (n := 1) D__law_told room guards rfl pass0 (ad_cons (rd_slot 2) ad_nil))))))
theorem sc__law_loops : FnScope ["many", "found", "lap"] ["many"] (defScope s__law_loops) := ⟨rfl, rfl, rfl, by decide +kernel, rfl, by decide +kernel, by decide +kernel⟩
theorem nd__law_loops : (["many", "found", "lap"] : List Str).Nodup := sc__law_loops.nd
theorem ok__law_loops {f : Addr} {fd : FuncData} {k : Nat} (F : Fun K "_law_loops" "_law_loops" s__law_loops f fd) (hm : mg "_law_loops" = some (.ref f)) (D__law_times : FnD P w K mg base k "_law_times" [.frz, .frz] .frz m_law_times) (z_range : mg "range" = none) : FnD P w K mg base (k + 1) "_law_loops" [.frz] .frz m_law_loops := by
  refine FnD.of_body (N := ["many", "found", "lap"]) (ps := ["many"]) (ks := [.frz, .frz, .frz]) (own := []) F hm (F.binds fun _ _ _ _ _ _ us hl => match us, hl with | [_], _ => rfl) sc__law_loops rfl rfl rfl (hown_of rfl) fun cdv A outer s H E vs room guards hlen => ?_
  exact (ss_cons (sd_set nd__law_loops rfl (.inl rfl) rfl (psOk_pins rfl) (ed_tup (ad_cons (rd_val (ed_tup (ad_cons (rd_val ed_int) (ad_cons (rd_val ed_int) ad_nil)))) ad_nil)))
    (ss_cons (sd_for PassesOwn.never rfl (id_range1 rfl z_range (ad_cons (rd_val (ed_var 0)) ad_nil)) (gd_name nd__law_loops rfl (.inl rfl) rfl (psOk_pins rfl) (vs := [2]) (by decide))
    (ss_one (sd_set nd__law_loops rfl (.inl rfl) rfl (psOk_pins rfl) (ed_call (n := 2) D__law_times room guards rfl pass0 (ad_cons (rd_val (ed_var 1)) (ad_cons (rd_val (ed_tup (ad_cons (rd_val (ed_tup (ad_cons (rd_val (ed_un o_neg (rd_val ed_int))) (ad_cons (rd_val (ed_un o_neg (rd_val ed_int))) ad_nil)))) (ad_cons (rd_val (ed_tup (ad_cons (rd_val ed_int) (ad_cons (rd_val (ed_un o_neg (rd_val ed_int))) ad_nil)))) ad_nil)))) ad_nil))))))
    (ss_one (sd_ret (ed_var 1)))))
theorem sc__law_sum : FnScope ["source", "many", "far", "found", "lap"] ["source", "many", "far"] (defScope s__law_sum) := ⟨rfl, rfl, rfl, by decide +kernel, rfl, by decide +kernel, by decide +kernel⟩
theorem nd__law_sum : (["source", "many", "far", "found", "lap"] : List Str).Nodup := sc__law_sum.nd
theorem ok__law_sum {f : Addr} {fd : FuncData} {k : Nat} (F : Fun K "_law_sum" "_law_sum" s__law_sum f fd) (hm : mg "_law_sum" = some (.ref f)) (D__law_pick : FnD P w K mg base k "_law_pick" [.src, .frz] .frz m_law_pick) (D__law_of : FnD P w K mg base k "_law_of" [.src, .frz] .frz m_law_of) (D__law_told : FnD P w K mg base k "_law_told" [.frz] .pt m_law_told) (z_range : mg "range" = none) : FnD P w K mg base (k + 1) "_law_sum" [.src, .frz, .frz] .pt m_law_sum := by
  refine FnD.of_body (N := ["source", "many", "far", "found", "lap"]) (ps := ["source", "many", "far"]) (ks := [.src, .frz, .frz, .dk, .frz]) (own := [0]) F hm (F.binds fun _ _ _ _ _ _ us hl => match us, hl with | [_, _, _], _ => rfl) sc__law_sum rfl rfl rfl (hown_of rfl) fun cdv A outer s H E vs room guards hlen => ?_
  exact (ss_cons (sd_own nd__law_sum rfl (.inl rfl) rfl (by decide) (psOk_pins rfl) fd_dk0)
    (ss_cons (sd_for PassesOwn.never rfl (id_range1 rfl z_range (ad_cons (rd_val (ed_callS (n := 1) (i := 0) D__law_pick room guards rfl pass0 (by decide) rfl rfl (by first | exact .inl rfl | exact .inr (.inl rfl) | exact .inr (.inr rfl)) (ad_cons (rd_val (ed_bin o_add (rd_val (ed_var 1)) (rd_val ed_int))) ad_nil))) ad_nil)) (gd_name nd__law_sum rfl (.inl rfl) rfl (psOk_pins rfl) (vs := [4]) (by decide))
    (ss_one (sd_dPut (hu1 room) rfl rfl (ed_callS (n := 1) (i := 0) D__law_of room guards rfl pass0 (by decide) rfl rfl (by first | exact .inl rfl | exact .inr (.inl rfl) | exact .inr (.inr rfl)) (ad_cons (rd_val (ed_lst (ad_cons (rd_val ed_int) (ad_cons (rd_val (ed_un o_neg (rd_val ed_int))) (ad_cons (rd_val ed_int) (ad_cons (rd_val (ed_un o_neg (rd_val ed_int))) (ad_cons (rd_val ed_int) ad_nil))))))) ad_nil)) (ed_bin o_sub (rd_val (ed_callS (n := 1) (i := 0) D__law_pick room guards rfl pass0 (by decide) rfl rfl (by first | exact .inl rfl | exact .inr (.inl rfl) | exact .inr (.inr rfl)) (ad_cons (rd_val (ed_bin o_add (rd_val (ed_bin o_mul (rd_val ed_int) (rd_val (ed_var 2)))) (rd_val ed_int))) ad_nil))) (rd_val (ed_var 2))))))
    (ss_one (sd_retF (fd_call (n := 1) D__law_told room guards rfl pass0 (ad_cons (rd_slot 3) ad_nil))))))
theorem sc__law_is_int : FnScope ["value"] ["value"] (defScope s__law_is_int) := ⟨rfl, rfl, rfl, by decide +kernel, rfl, by decide +kernel, by decide +kernel⟩
theorem ok__law_is_int {f : Addr} {fd : FuncData} {k : Nat} (F : Fun K "_law_is_int" "_law_is_int" s__law_is_int f fd) (hm : mg "_law_is_int" = some (.ref f)) (z_bool : mg "bool" = none) (z_int : mg "int" = none) (z_isinstance : mg "isinstance" = none) : FnD P w K mg base (k + 1) "_law_is_int" [.frz] .frz m_law_is_int := by
  refine FnD.of_body (N := ["value"]) (ps := ["value"]) (ks := [.frz]) (own := []) F hm (F.binds fun _ _ _ _ _ _ us hl => match us, hl with | [_], _ => rfl) sc__law_is_int rfl rfl rfl (hown_of rfl) fun cdv A outer s H E vs room guards hlen => ?_
  exact (ss_one (sd_ret (ed_and (ed_isi (c := "int") rfl rfl z_isinstance rfl z_int (by decide +kernel) (rd_val (ed_var 0))) (ed_one (ed_not (ed_isi (c := "bool") rfl rfl z_isinstance rfl z_bool (by decide +kernel) (rd_val (ed_var 0))))))))
theorem sc__law_is_sum : FnScope ["value", "pair", "k"] ["value"] (defScope s__law_is_sum) := ⟨rfl, rfl, rfl, by decide +kernel, rfl, by decide +kernel, by decide +kernel⟩
theorem nd__law_is_sum : (["value", "pair", "k"] : List Str).Nodup := sc__law_is_sum.nd
theorem ok__law_is_sum {f : Addr} {fd : FuncData} {k : Nat} (F : Fun K "_law_is_sum" "_law_is_sum" s__law_is_sum f fd) (hm : mg "_law_is_sum" = some (.ref f)) (D__law_is_int : FnD P w K mg base k "_law_is_int" [.frz] .frz m_law_is_int) (z_isinstance : mg "isinstance" = none) (z_len : mg "len" = none) (z_range : mg "range" = none) (z_tuple : mg "tuple" = none) : FnD P w K mg base (k + 1) "_law_is_sum" [.frz] .frz m_law_is_sum := by
  refine FnD.of_body (N := ["value", "pair", "k"]) (ps := ["value"]) (ks := [.frz, .frz, .frz]) (own := []) F hm (F.binds fun _ _ _ _ _ _ us hl => match us, hl with | [_], _ => rfl) sc__law_is_sum rfl rfl rfl (hown_of rfl) fun cdv A outer s H E vs room guards hlen => ?_
  exact (ss_cons (sd_if (td_not (td_val (ed_isi (c := "tuple") rfl rfl z_isinstance rfl z_tuple (by decide +kernel) (rd_val (ed_var 0)))))
    (ss_one (sd_ret ed_bl))
    ss_nil)
    (ss_cons (sd_for PassesOwn.never rfl (id_seq (ed_var 0)) (gd_name nd__law_is_sum rfl (.inl rfl) rfl (psOk_pins rfl) (vs := [1]) (by decide))
    (ss_cons (sd_if (wd_pt (wd_or (td_not (td_val (ed_isi (c := "tuple") rfl rfl z_isinstance rfl z_tuple (by decide +kernel) (rd_val (ed_var 1))))) (wd_or (td_cmp (o_ne (hu64 room)) (rd_val (ed_callB f_len rfl z_len PySem.boot_len (ad_cons (rd_val (ed_var 1)) ad_nil))) (rd_val ed_int) rfl) (wd_or1 (td_not (td_val (ed_call (n := 1) D__law_is_int room guards rfl pass0 (ad_cons (rd_val (ed_ix (rd_val (ed_var 1)) (rd_val ed_int) (fun _ _ => rfl))) ad_nil))))))))
    (ss_one (sd_ret ed_bl))
    ss_nil)
    (ss_one (sd_if (wd_pt (wd_or (td_not (td_val (ed_call (n := 1) D__law_is_int room guards rfl pass0 (ad_cons (rd_val (ed_ix (rd_val (ed_var 1)) (rd_val ed_int) (fun _ _ => rfl))) ad_nil)))) (wd_or1 (td_cmp (o_eqE (hu64 room)) (rd_val (ed_ix (rd_val (ed_var 1)) (rd_val ed_int) (fun _ _ => rfl))) (rd_val ed_int) rfl))))
    (ss_one (sd_ret ed_bl))
    ss_nil))))
    (ss_one (sd_ret (ed_cmp (o_eqE (hu64 room)) (rd_val (ed_comp rfl nd__law_is_sum (id_range2 rfl z_range (ad_cons (rd_val ed_int) (ad_cons (rd_val (ed_callB f_len rfl z_len PySem.boot_len (ad_cons (rd_val (ed_var 0)) ad_nil))) ad_nil))) (own := [("k", 2)]) (blkOk_by rfl) (fun _ _ _ _ _ => (gd_name nd__law_is_sum rfl (.inl rfl) rfl (psOk_pins rfl) (vs := [2]) (by decide))) (fun _ _ _ _ _ => (ptd_one (td_cmp o_le (rd_val (ed_ix (rd_val (ed_ix (rd_val (ed_var 0)) (rd_val (ed_var 2)) (fun _ _ => rfl))) (rd_val ed_int) (fun _ _ => rfl))) (rd_val (ed_ix (rd_val (ed_ix (rd_val (ed_var 0)) (rd_val (ed_bin o_sub (rd_val (ed_var 2)) (rd_val ed_int))) (fun _ _ => rfl))) (rd_val ed_int) (fun _ _ => rfl))) rfl))) (fun _ _ _ _ _ => (ed_var 2)) (frzAll_pins rfl))) (rd_val (ed_lst ad_nil)) rfl)))))
theorem sc__law_near : FnScope ["source", "value", "odd", "k", "way"] ["source", "value", "odd"] (defScope s__law_near) := ⟨rfl, rfl, rfl, by decide +kernel, rfl, by decide +kernel, by decide +kernel⟩
theorem nd__law_near : (["source", "value", "odd", "k", "way"] : List Str).Nodup := sc__law_near.nd
theorem no__law_near {f : Addr} {fd : FuncData} {k : Nat} (F : Fun K "_law_near" "_law_near" s__law_near f fd) (hm : mg "_law_near" = some (.ref f)) : FnD P w K mg base k "_law_near" [.src, .frz, .frz] .frz (fun _ => none) := FnD.none (ps := ["source", "value", "odd"]) F hm (F.binds fun _ _ _ _ _ _ us hl => match us, hl with | [_, _, _], _ => rfl)
theorem ok__law_near {rec_ : List PyData → Option (PyData × List PyData)} {f : Addr} {fd : FuncData} {k : Nat} (F : Fun K "_law_near" "_law_near" s__law_near f fd) (hm : mg "_law_near" = some (.ref f)) (D__law_is_int : FnD P w K mg base k "_law_is_int" [.frz] .frz m_law_is_int) (D__law_pick : FnD P w K mg base k "_law_pick" [.src, .frz] .frz m_law_pick) (D__law_of : FnD P w K mg base k "_law_of" [.src, .frz] .frz m_law_of) (D__law_near : FnD P w K mg base k "_law_near" [.src, .frz, .frz] .frz rec_) (z_isinstance : mg "isinstance" = none) (z_len : mg "len" = none) (z_list : mg "list" = none) (z_tuple : mg "tuple" = none) : FnD P w K mg base (k + 1) "_law_near" [.src, .frz, .frz] .frz (ms_law_near rec_) := by
  refine FnD.of_body (N := ["source", "value", "odd", "k", "way"]) (ps := ["source", "value", "odd"]) (ks := [.src, .frz, .frz, .frz, .frz]) (own := [0]) F hm (F.binds fun _ _ _ _ _ _ us hl => match us, hl with | [_, _, _], _ => rfl) sc__law_near rfl rfl rfl (hown_of rfl) fun cdv A outer s H E vs room guards hlen => ?_
  exact (ss_cons (sd_if (wd_pt (wd_and (td_val (ed_call (n := 1) D__law_is_int room guards rfl pass0 (ad_cons (rd_val (ed_var 1)) ad_nil))) (wd_and1 (td_cmp o_gt (rd_val (ed_callS (n := 1) (i := 0) D__law_pick room guards rfl pass0 (by decide) rfl rfl (by first | exact .inl rfl | exact .inr (.inl rfl) | exact .inr (.inr rfl)) (ad_cons (rd_val ed_int) ad_nil))) (rd_val ed_int) rfl))))
    (ss_one (sd_ret (ed_bin o_add (rd_val (ed_var 1)) (rd_val (ed_callS (n := 1) (i := 0) D__law_of room guards rfl pass0 (by decide) rfl rfl (by first | exact .inl rfl | exact .inr (.inl rfl) | exact .inr (.inr rfl)) (ad_cons (rd_val (ed_lst (ad_cons (rd_val ed_int) (ad_cons (rd_val (ed_un o_neg (rd_val ed_int))) (ad_cons (rd_val ed_int) ad_nil))))) ad_nil))))))
    ss_nil)
    (ss_cons (sd_if (wd_pt (wd_or (td_not (td_val (ed_isi (c := "tuple") rfl rfl z_isinstance rfl z_tuple (by decide +kernel) (rd_val (ed_var 1))))) (wd_or (td_cmp (o_eqE (hu64 room)) (rd_val (ed_var 1)) (rd_val (ed_tup ad_nil)) rfl) (wd_or1 (td_cmp (o_eqE (hu64 room)) (rd_val (ed_callS (n := 1) (i := 0) D__law_pick room guards rfl pass0 (by decide) rfl rfl (by first | exact .inl rfl | exact .inr (.inl rfl) | exact .inr (.inr rfl)) (ad_cons (rd_val ed_int) ad_nil))) (rd_val ed_int) rfl)))))
    (ss_one (sd_ret (ed_callS (n := 1) (i := 0) D__law_of room guards rfl pass0 (by decide) rfl rfl (by first | exact .inl rfl | exact .inr (.inl rfl) | exact .inr (.inr rfl)) (ad_cons (rd_val (ed_var 2)) ad_nil))))
    ss_nil)
    (ss_cons (sd_parK2 rfl nd__law_near rfl rfl (by decide) rfl rfl (kds := [.frz, .frz]) (kds_of rfl) (af_cons (fd_frz (ed_callS (n := 1) (i := 0) D__law_pick room guards rfl pass0 (by decide) rfl rfl (by first | exact .inl rfl | exact .inr (.inl rfl) | exact .inr (.inr rfl)) (ad_cons (rd_val (ed_callB f_len rfl z_len PySem.boot_len (ad_cons (rd_val (ed_var 1)) ad_nil))) ad_nil))) (af_cons (fd_frz (ed_callS (n := 1) (i := 0) D__law_pick room guards rfl pass0 (by decide) rfl rfl (by first | exact .inl rfl | exact .inr (.inl rfl) | exact .inr (.inr rfl)) (ad_cons (rd_val ed_int) ad_nil))) af_nil)) rfl)
    (ss_cons (sd_if (td_cmp o_lt (rd_val (ed_var 4)) (rd_val ed_int) rfl)
    (ss_one (sd_ret (ed_bin o_add (rd_val (ed_bin o_add (rd_val (ed_sl (rd_val (ed_var 1)) pd_none (pd_some (ed_var 3)))) (rd_val (ed_tup (ad_cons (rd_val (ed_callS (n := 2) (i := 0) D__law_near room guards rfl pass0 (by decide) rfl rfl (by first | exact .inl rfl | exact .inr (.inl rfl) | exact .inr (.inr rfl)) (ad_cons (rd_val (ed_ix (rd_val (ed_var 1)) (rd_val (ed_var 3)) (fun _ _ => rfl))) (ad_cons (rd_val (ed_var 2)) ad_nil)))) ad_nil))))) (rd_val (ed_sl (rd_val (ed_var 1)) (pd_some (ed_bin o_add (rd_val (ed_var 3)) (rd_val ed_int))) pd_none)))))
    ss_nil)
    (ss_one (sd_ret (ed_callS (n := 1) (i := 0) D__law_of room guards rfl pass0 (by decide) rfl rfl (by first | exact .inl rfl | exact .inr (.inl rfl) | exact .inr (.inr rfl)) (ad_cons (rd_val (ed_lst (ad_cons (rd_val (ed_bin o_add (rd_val (ed_sl (rd_val (ed_var 1)) pd_none (pd_some (ed_var 3)))) (rd_val (ed_sl (rd_val (ed_var 1)) (pd_some (ed_bin o_add (rd_val (ed_var 3)) (rd_val ed_int))) pd_none)))) (ad_cons (rd_val (ed_bin o_add (rd_val (ed_sl (rd_val (ed_var 1)) pd_none (pd_some (ed_bin o_add (rd_val (ed_var 3)) (rd_val ed_int))))) (rd_val (ed_sl (rd_val (ed_var 1)) (pd_some (ed_var 3)) pd_none)))) (ad_cons (rd_val (ed_revT (rd_val (ed_var 1)) pd_none)) (ad_cons (rd_val (ed_callTy f_list rfl z_list (by decide +kernel) (ad_cons (rd_val (ed_var 1)) ad_nil))) ad_nil)))))) ad_nil))))))))
theorem sc_law : FnScope ["script", "source", "odd", "lap", "both", "turned", "total", "many", "values", "look", "value", "one", "other", "third", "kept", "times", "shown", "power", "number"] ["script"] (defScope s_law) := ⟨rfl, rfl, rfl, by decide +kernel, rfl, by decide +kernel, by decide +kernel⟩
theorem nd_law : (["script", "source", "odd", "lap", "both", "turned", "total", "many", "values", "look", "value", "one", "other", "third", "kept", "times", "shown", "power", "number"] : List Str).Nodup := sc_law.nd
theorem ok_law {f : Addr} {fd : FuncData} {k : Nat} (F : Fun K "law" "law" s_law f fd) (hm : mg "law" = some (.ref f)) (D__law_source : FnD P w K mg base k "_law_source" [.frz] .src m_law_source) (D__law_sum : FnD P w K mg base k "_law_sum" [.src, .frz, .frz] .pt m_law_sum) (D__law_pick : FnD P w K mg base k "_law_pick" [.src, .frz] .frz m_law_pick) (D_added_powers : FnD P w K mg base k "added_powers" [.pt, .frz, .frz] .pt m_added_powers) (D__law_added : FnD P w K mg base k "_law_added" [.pt, .frz, .frz] .frz m_law_added) (D__law_times : FnD P w K mg base k "_law_times" [.frz, .frz] .frz m_law_times) (D_multiplied_powers : FnD P w K mg base k "multiplied_powers" [.frz, .frz] .frz m_multiplied_powers) (D_turned_powers : FnD P w K mg base k "turned_powers" [.frz] .frz m_turned_powers) (D_sum_at_one : FnD P w K mg base k "sum_at_one" [.frz] .frz m_sum_at_one) (D_loops_taken : FnD P w K mg base k "loops_taken" [.frz] .frz m_loops_taken) (D__law_loops : FnD P w K mg base k "_law_loops" [.frz] .frz m_law_loops) (D__law_near : FnD P w K mg base k "_law_near" [.src, .frz, .frz] .frz m_law_near) (D_is_power_sum : FnD P w K mg base k "is_power_sum" [.frz] .frz m_is_power_sum) (D__law_is_sum : FnD P w K mg base k "_law_is_sum" [.frz] .frz m_law_is_sum) {a_LOOP : Addr} (m_LOOP : mg "LOOP" = some (.ref a_LOOP)) (r_LOOP : ∀ H O, Rep K H O top_LOOP (.ref a_LOOP)) (z_list : mg "list" = none) (z_range : mg "range" = none) (z_repr : mg "repr" = none) (z_sum : mg "sum" = none) (z_tuple : mg "tuple" = none) : FnD P w K mg base (k + 1) "law" [.frz] .frz m_law := by
  refine FnD.of_body (N := ["script", "source", "odd", "lap", "both", "turned", "total", "many", "values", "look", "value", "one", "other", "third", "kept", "times", "shown", "power", "number"]) (ps := ["script"]) (ks := [.frz, .src, .frz, .frz, .frz, .frz, .frz, .frz, .l1, .frz, .frz, .pt, .frz, .frz, .frz, .frz, .frz, .frz, .frz]) (own := []) F hm (F.binds fun _ _ _ _ _ _ us hl => match us, hl with | [_], _ => rfl) sc_law rfl rfl rfl (hown_of rfl) fun cdv A outer s H E vs room guards hlen => ?_
  exact (ss_cons (sd_own nd_law rfl (.inl rfl) rfl (by decide) (psOk_pins rfl) (fd_call (n := 1) D__law_source room guards rfl pass0 (ad_cons (rd_val (ed_var 0)) ad_nil)))
    (ss_cons (sd_set nd_law rfl (.inl rfl) rfl (psOk_pins rfl) (ed_lst (ad_cons (rd_val ed_non) (ad_cons (rd_val ed_bl) (ad_cons (rd_val ed_int) (ad_cons (rd_val ed_int) (ad_cons (rd_val (ed_un o_neg (rd_val ed_int))) (ad_cons (rd_val ed_str) (ad_cons (rd_val (ed_tup ad_nil)) (ad_cons (rd_val (ed_tup (ad_cons (rd_val ed_int) ad_nil))) (ad_cons (rd_val (ed_tup (ad_cons (rd_val ed_int) (ad_cons (rd_val ed_int) ad_nil)))) (ad_cons (rd_val (ed_tup (ad_cons (rd_val ed_int) (ad_cons (rd_val ed_int) ad_nil)))) (ad_cons (rd_val (ed_lst (ad_cons (rd_val ed_int) ad_nil))) (ad_cons (rd_val (ed_own fd_dk0)) (ad_cons (rd_val (ed_bin o_pow (rd_val ed_int) (rd_val ed_int))) ad_nil)))))))))))))))
    (ss_cons (sd_for PassesOwn.never rfl (id_range1 rfl z_range (ad_cons (rd_val ed_int) ad_nil)) (gd_name nd_law rfl (.inl rfl) rfl (psOk_pins rfl) (vs := [3]) (by decide))
    (ss_cons (sd_parK3 rfl nd_law rfl rfl rfl (by decide) (by decide) (by decide) rfl rfl rfl (kds := [.pt, .frz, .frz]) (kds_of rfl) (af_cons (fd_callS (n := 2) (i := 1) D__law_sum room guards rfl pass0 (by decide) rfl rfl (by first | exact .inl rfl | exact .inr (.inl rfl) | exact .inr (.inr rfl)) (ad_cons (rd_val ed_int) (ad_cons (rd_val ed_int) ad_nil))) (af_cons (fd_frz (ed_callS (n := 2) (i := 1) D__law_sum room guards rfl pass0 (by decide) rfl rfl (by first | exact .inl rfl | exact .inr (.inl rfl) | exact .inr (.inr rfl)) (ad_cons (rd_val ed_int) (ad_cons (rd_val ed_int) ad_nil)))) (af_cons (fd_frz (ed_callS (n := 2) (i := 1) D__law_sum room guards rfl pass0 (by decide) rfl rfl (by first | exact .inl rfl | exact .inr (.inl rfl) | exact .inr (.inr rfl)) (ad_cons (rd_val ed_int) (ad_cons (rd_val ed_int) ad_nil)))) af_nil))) rfl)
    (ss_cons (sd_parK2 rfl nd_law rfl rfl (by decide) rfl rfl (kds := [.frz, .frz]) (kds_of rfl) (af_cons (fd_frz (ed_callB (f_repr guards (hu64 room)) rfl z_repr (by decide +kernel) (ad_cons (rd_val (ed_lst (ad_cons (rd_val (ed_ptVar 11 rfl)) (ad_cons (rd_val (ed_var 12)) (ad_cons (rd_val (ed_var 13)) ad_nil))))) ad_nil))) (af_cons (fd_frz (ed_bin o_sub (rd_val (ed_callS (n := 1) (i := 1) D__law_pick room guards rfl pass0 (by decide) rfl rfl (by first | exact .inl rfl | exact .inr (.inl rfl) | exact .inr (.inr rfl)) (ad_cons (rd_val ed_int) ad_nil))) (rd_val ed_int))) af_nil)) rfl)
    (ss_cons (sd_if (td_cmp (o_ne (hu64 room)) (rd_val (ed_callB (f_repr guards (hu64 room)) rfl z_repr (by decide +kernel) (ad_cons (rd_val (ed_own (fd_callPt (n := 2) (i := 11) D_added_powers room guards rfl pass0 rfl (ad_cons (rd_val (ed_var 12)) (ad_cons (rd_val (ed_var 15)) ad_nil))))) ad_nil))) (rd_val (ed_callB (f_repr guards (hu64 room)) rfl z_repr (by decide +kernel) (ad_cons (rd_val (ed_own (fd_callPt (n := 2) (i := 11) D__law_added room guards rfl pass0 rfl (ad_cons (rd_val (ed_var 12)) (ad_cons (rd_val (ed_var 15)) ad_nil))))) ad_nil))) rfl)
    (ss_one (sd_ret ed_bl))
    ss_nil)
    (ss_cons (sd_set nd_law rfl (.inl rfl) rfl (psOk_pins rfl) (ed_call (n := 2) D__law_times room guards rfl pass0 (ad_cons (rd_val (ed_ptVar 11 rfl)) (ad_cons (rd_val (ed_var 12)) ad_nil))))
    (ss_cons (sd_if (wd_pt (wd_or (td_cmp (o_ne (hu64 room)) (rd_val (ed_callB (f_repr guards (hu64 room)) rfl z_repr (by decide +kernel) (ad_cons (rd_val (ed_call (n := 2) D_multiplied_powers room guards rfl pass0 (ad_cons (rd_val (ed_ptVar 11 rfl)) (ad_cons (rd_val (ed_var 12)) ad_nil)))) ad_nil))) (rd_val (ed_callB (f_repr guards (hu64 room)) rfl z_repr (by decide +kernel) (ad_cons (rd_val (ed_var 4)) ad_nil))) rfl) (wd_or1 (td_cmp (o_ne (hu64 room)) (rd_val (ed_call (n := 2) D_multiplied_powers room guards rfl pass0 (ad_cons (rd_val (ed_var 12)) (ad_cons (rd_val (ed_ptVar 11 rfl)) ad_nil)))) (rd_val (ed_var 4)) rfl))))
    (ss_one (sd_ret ed_bl))
    ss_nil)
    (ss_cons (sd_if (td_cmp (o_ne (hu64 room)) (rd_val (ed_call (n := 2) D_multiplied_powers room guards rfl pass0 (ad_cons (rd_val (ed_var 4)) (ad_cons (rd_val (ed_var 13)) ad_nil)))) (rd_val (ed_call (n := 2) D_multiplied_powers room guards rfl pass0 (ad_cons (rd_val (ed_ptVar 11 rfl)) (ad_cons (rd_val (ed_call (n := 2) D_multiplied_powers room guards rfl pass0 (ad_cons (rd_val (ed_var 12)) (ad_cons (rd_val (ed_var 13)) ad_nil)))) ad_nil)))) rfl)
    (ss_one (sd_ret ed_bl))
    ss_nil)
    (ss_cons (sd_set nd_law rfl (.inl rfl) rfl (psOk_pins rfl) (ed_callTy f_tuple rfl z_tuple (by decide +kernel) (ad_cons (rd_val (ed_comp rfl nd_law (id_seq (ed_revT (rd_val (ed_ptVar 11 rfl)) pd_none)) (own := [("power", 17), ("number", 18)]) (blkOk_by rfl) (fun _ _ _ _ _ => (gd_tup rfl (gsd_cons (gd_name nd_law rfl (.inl rfl) rfl (psOk_pins rfl) (vs := [17, 18]) (by decide)) (gsd_cons (gd_name nd_law rfl (.inl rfl) rfl (psOk_pins rfl) (vs := [17, 18]) (by decide)) gsd_nil)))) (fun _ _ _ _ _ => ptd_nil) (fun _ _ _ _ _ => (ed_tup (ad_cons (rd_val (ed_bin o_sub (rd_val ed_int) (rd_val (ed_var 17)))) (ad_cons (rd_val (ed_var 18)) ad_nil)))) (frzAll_pins rfl))) ad_nil)))
    (ss_cons (sd_if (wd_pt (wd_or (td_cmp (o_ne (hu64 room)) (rd_val (ed_callB (f_repr guards (hu64 room)) rfl z_repr (by decide +kernel) (ad_cons (rd_val (ed_call (n := 1) D_turned_powers room guards rfl pass0 (ad_cons (rd_val (ed_ptVar 11 rfl)) ad_nil))) ad_nil))) (rd_val (ed_callB (f_repr guards (hu64 room)) rfl z_repr (by decide +kernel) (ad_cons (rd_val (ed_var 5)) ad_nil))) rfl) (wd_or1 (td_cmp (o_ne (hu64 room)) (rd_val (ed_call (n := 1) D_turned_powers room guards rfl pass0 (ad_cons (rd_val (ed_var 4)) ad_nil))) (rd_val (ed_call (n := 2) D__law_times room guards rfl pass0 (ad_cons (rd_val (ed_var 5)) (ad_cons (rd_val (ed_call (n := 1) D_turned_powers room guards rfl pass0 (ad_cons (rd_val (ed_var 12)) ad_nil))) ad_nil)))) rfl))))
    (ss_one (sd_ret ed_bl))
    ss_nil)
    (ss_cons (sd_set nd_law rfl (.inl rfl) rfl (psOk_pins rfl) (ed_callB (f_sum rfl) rfl z_sum (by decide +kernel) (ad_cons (rd_val (ed_comp rfl nd_law (id_seq (ed_ptVar 11 rfl)) (own := [("power", 17), ("number", 18)]) (blkOk_by rfl) (fun _ _ _ _ _ => (gd_tup rfl (gsd_cons (gd_name nd_law rfl (.inl rfl) rfl (psOk_pins rfl) (vs := [17, 18]) (by decide)) (gsd_cons (gd_name nd_law rfl (.inl rfl) rfl (psOk_pins rfl) (vs := [17, 18]) (by decide)) gsd_nil)))) (fun _ _ _ _ _ => ptd_nil) (fun _ _ _ _ _ => (ed_var 18)) (frzAll_pins rfl))) ad_nil)))
    (ss_cons (sd_if (wd_pt (wd_or (td_cmp (o_ne (hu64 room)) (rd_val (ed_callB (f_repr guards (hu64 room)) rfl z_repr (by decide +kernel) (ad_cons (rd_val (ed_call (n := 1) D_sum_at_one room guards rfl pass0 (ad_cons (rd_val (ed_ptVar 11 rfl)) ad_nil))) ad_nil))) (rd_val (ed_callB (f_repr guards (hu64 room)) rfl z_repr (by decide +kernel) (ad_cons (rd_val (ed_var 6)) ad_nil))) rfl) (wd_or1 (td_cmp (o_ne (hu64 room)) (rd_val (ed_call (n := 1) D_sum_at_one room guards rfl pass0 (ad_cons (rd_val (ed_var 4)) ad_nil))) (rd_val (ed_bin o_mul (rd_val (ed_var 6)) (rd_val (ed_call (n := 1) D_sum_at_one room guards rfl pass0 (ad_cons (rd_val (ed_var 12)) ad_nil))))) rfl))))
    (ss_one (sd_ret ed_bl))
    ss_nil)
    (ss_cons (sd_set nd_law rfl (.inl rfl) rfl (psOk_pins rfl) (ed_callS (n := 1) (i := 1) D__law_pick room guards rfl pass0 (by decide) rfl rfl (by first | exact .inl rfl | exact .inr (.inl rfl) | exact .inr (.inr rfl)) (ad_cons (rd_val ed_int) ad_nil)))
    (ss_cons (sd_if (td_cmp (o_ne (hu64 room)) (rd_val (ed_callB (f_repr guards (hu64 room)) rfl z_repr (by decide +kernel) (ad_cons (rd_val (ed_call (n := 1) D_loops_taken room guards rfl pass0 (ad_cons (rd_val (ed_var 7)) ad_nil))) ad_nil))) (rd_val (ed_callB (f_repr guards (hu64 room)) rfl z_repr (by decide +kernel) (ad_cons (rd_val (ed_call (n := 1) D__law_loops room guards rfl pass0 (ad_cons (rd_val (ed_var 7)) ad_nil))) ad_nil))) rfl)
    (ss_one (sd_ret ed_bl))
    ss_nil)
    (ss_cons (sd_own nd_law rfl (.inl rfl) rfl (by decide) (psOk_pins rfl) (fd_lst (ad_cons (rd_val (ed_ptVar 11 rfl)) (ad_cons (rd_val (ed_callTy f_list rfl z_list (by decide +kernel) (ad_cons (rd_val (ed_ptVar 11 rfl)) ad_nil))) (ad_cons (rd_val (ed_revT (rd_val (ed_ptVar 11 rfl)) pd_none)) (ad_cons (rd_val (ed_bin o_add (rd_val (ed_ptVar 11 rfl)) (rd_val (ed_ptVar 11 rfl)))) (ad_cons (rd_val ed_non) (ad_cons (rd_val (ed_tup ad_nil)) (ad_cons (rd_val (ed_tup (ad_cons (rd_val (ed_tup (ad_cons (rd_val ed_int) (ad_cons (rd_val ed_int) ad_nil)))) ad_nil))) (ad_cons (rd_val (ed_tup (ad_cons (rd_val (ed_tup (ad_cons (rd_val ed_int) (ad_cons (rd_val ed_bl) ad_nil)))) ad_nil))) (ad_cons (rd_val (ed_tup (ad_cons (rd_val (ed_tup (ad_cons (rd_val ed_str) (ad_cons (rd_val ed_int) ad_nil)))) ad_nil))) ad_nil)))))))))))
    (ss_cons (sd_for PassesOwn.never rfl (id_range1 rfl z_range (ad_cons (rd_val ed_int) ad_nil)) (gd_name nd_law rfl (.inl rfl) rfl (psOk_pins rfl) (vs := [9]) (by decide))
    (ss_one (sd_expr (ed_append rfl rfl (ed_callS (n := 2) (i := 1) D__law_near room guards rfl pass0 (by decide) rfl rfl (by first | exact .inl rfl | exact .inr (.inl rfl) | exact .inr (.inr rfl)) (ad_cons (rd_val (ed_ptVar 11 rfl)) (ad_cons (rd_val (ed_var 2)) ad_nil)))))))
    (ss_cons (sd_for PassesOwn.never rfl (id_seq (ed_take 8 (hp := (psOk_pins rfl)))) (gd_name nd_law rfl (.inl rfl) rfl (psOk_pins rfl) (vs := [10]) (by decide))
    (ss_cons (sd_set nd_law rfl (.inl rfl) rfl (psOk_pins rfl) (ed_callB (f_repr guards (hu64 room)) rfl z_repr (by decide +kernel) (ad_cons (rd_val (ed_var 10)) ad_nil)))
    (ss_one (sd_if (wd_pt (wd_or (td_cmp (o_ne (hu64 room)) (rd_val (ed_callB (f_repr guards (hu64 room)) rfl z_repr (by decide +kernel) (ad_cons (rd_val (ed_call (n := 1) D_is_power_sum room guards rfl pass0 (ad_cons (rd_val (ed_var 10)) ad_nil))) ad_nil))) (rd_val (ed_callB (f_repr guards (hu64 room)) rfl z_repr (by decide +kernel) (ad_cons (rd_val (ed_call (n := 1) D__law_is_sum room guards rfl pass0 (ad_cons (rd_val (ed_var 10)) ad_nil))) ad_nil))) rfl) (wd_or1 (td_cmp (o_ne (hu64 room)) (rd_val (ed_callB (f_repr guards (hu64 room)) rfl z_repr (by decide +kernel) (ad_cons (rd_val (ed_var 10)) ad_nil))) (rd_val (ed_var 16)) rfl))))
    (ss_one (sd_ret ed_bl))
    ss_nil))))
    (ss_one (sd_if (td_cmp (o_ne (hu64 room)) (rd_val (ed_callB (f_repr guards (hu64 room)) rfl z_repr (by decide +kernel) (ad_cons (rd_val (ed_lst (ad_cons (rd_val (ed_ptVar 11 rfl)) (ad_cons (rd_val (ed_var 12)) (ad_cons (rd_val (ed_var 13)) ad_nil))))) ad_nil))) (rd_val (ed_var 14)) rfl)
    (ss_one (sd_ret ed_bl))
    ss_nil))))))))))))))))))
    (ss_one (sd_ret (ed_and (ed_cmp (o_eqE (hu64 room)) (rd_val (ed_top rfl m_LOOP r_LOOP)) (rd_val (ed_tup (ad_cons (rd_val (ed_tup (ad_cons (rd_val (ed_un o_neg (rd_val ed_int))) (ad_cons (rd_val (ed_un o_neg (rd_val ed_int))) ad_nil)))) (ad_cons (rd_val (ed_tup (ad_cons (rd_val ed_int) (ad_cons (rd_val (ed_un o_neg (rd_val ed_int))) ad_nil)))) ad_nil)))) rfl) (ed_one (ed_cmp (o_eqE (hu64 room)) (rd_val (ed_call (n := 1) D_loops_taken room guards rfl pass0 (ad_cons (rd_val ed_int) ad_nil))) (rd_val (ed_tup (ad_cons (rd_val (ed_tup (ad_cons (rd_val (ed_un o_neg (rd_val ed_int))) (ad_cons (rd_val ed_int) ad_nil)))) (ad_cons (rd_val (ed_tup (ad_cons (rd_val ed_int) (ad_cons (rd_val ed_int) ad_nil)))) (ad_cons (rd_val (ed_tup (ad_cons (rd_val ed_int) (ad_cons (rd_val ed_int) ad_nil)))) ad_nil))))) rfl))))))))
end
theorem all_mk {K : PySem.W.Frag} {h base : Heap} {mg : Str → Option Value} {P : Program} {w : World} (X : K.In h) (G : h.Ns mainGlobals mg)
    {od0 an0 : Option Addr} {sl0 : Array (Option Value)} {oc0 kV0 dc0 pm0 cd0 ct0 : Value} {f0 : Addr}
    (a0 : PySem.W.nsIn K mainGlobals "is_power_sum" = some (some (.ref f0))) (l0 : K.lookup f0 = some ⟨oc0, od0, .func (PySem.W.fnOf "is_power_sum" "is_power_sum" (defArgs s_is_power_sum) (defBody s_is_power_sum) (defScope s_is_power_sum) .none kV0 dc0 pm0 an0 cd0 ct0), sl0⟩) (c0 : PySem.W.codeIn K cd0 "is_power_sum" = true) (k0 : PySem.W.keepIn K (.ref f0) = true)
    {od1 an1 : Option Addr} {sl1 : Array (Option Value)} {oc1 kV1 dc1 pm1 cd1 ct1 : Value} {f1 : Addr}
    (a1 : PySem.W.nsIn K mainGlobals "told_powers" = some (some (.ref f1))) (l1 : K.lookup f1 = some ⟨oc1, od1, .func (PySem.W.fnOf "told_powers" "told_powers" (defArgs s_told_powers) (defBody s_told_powers) (defScope s_told_powers) .none kV1 dc1 pm1 an1 cd1 ct1), sl1⟩) (c1 : PySem.W.codeIn K cd1 "told_powers" = true) (k1 : PySem.W.keepIn K (.ref f1) = true)
    {od2 an2 : Option Addr} {sl2 : Array (Option Value)} {oc2 kV2 dc2 pm2 cd2 ct2 : Value} {f2 : Addr}
    (a2 : PySem.W.nsIn K mainGlobals "added_powers" = some (some (.ref f2))) (l2 : K.lookup f2 = some ⟨oc2, od2, .func (PySem.W.fnOf "added_powers" "added_powers" (defArgs s_added_powers) (defBody s_added_powers) (defScope s_added_powers) .none kV2 dc2 pm2 an2 cd2 ct2), sl2⟩) (c2 : PySem.W.codeIn K cd2 "added_powers" = true) (k2 : PySem.W.keepIn K (.ref f2) = true)
    {od3 an3 : Option Addr} {sl3 : Array (Option Value)} {oc3 kV3 dc3 pm3 cd3 ct3 : Value} {f3 : Addr}
    (a3 : PySem.W.nsIn K mainGlobals "multiplied_powers" = some (some (.ref f3))) (l3 : K.lookup f3 = some ⟨oc3, od3, .func (PySem.W.fnOf "multiplied_powers" "multiplied_powers" (defArgs s_multiplied_powers) (defBody s_multiplied_powers) (defScope s_multiplied_powers) .none kV3 dc3 pm3 an3 cd3 ct3), sl3⟩) (c3 : PySem.W.codeIn K cd3 "multiplied_powers" = true) (k3 : PySem.W.keepIn K (.ref f3) = true)
    {od4 an4 : Option Addr} {sl4 : Array (Option Value)} {oc4 kV4 dc4 pm4 cd4 ct4 : Value} {f4 : Addr}
    (a4 : PySem.W.nsIn K mainGlobals "turned_powers" = some (some (.ref f4))) (l4 : K.lookup f4 = some ⟨oc4, od4, .func (PySem.W.fnOf "turned_powers" "turned_powers" (defArgs s_turned_powers) (defBody s_turned_powers) (defScope s_turned_powers) .none kV4 dc4 pm4 an4 cd4 ct4), sl4⟩) (c4 : PySem.W.codeIn K cd4 "turned_powers" = true) (k4 : PySem.W.keepIn K (.ref f4) = true)
    {od5 an5 : Option Addr} {sl5 : Array (Option Value)} {oc5 kV5 dc5 pm5 cd5 ct5 : Value} {f5 : Addr}
    (a5 : PySem.W.nsIn K mainGlobals "loops_taken" = some (some (.ref f5))) (l5 : K.lookup f5 = some ⟨oc5, od5, .func (PySem.W.fnOf "loops_taken" "loops_taken" (defArgs s_loops_taken) (defBody s_loops_taken) (defScope s_loops_taken) .none kV5 dc5 pm5 an5 cd5 ct5), sl5⟩) (c5 : PySem.W.codeIn K cd5 "loops_taken" = true) (k5 : PySem.W.keepIn K (.ref f5) = true)
    {od6 an6 : Option Addr} {sl6 : Array (Option Value)} {oc6 kV6 dc6 pm6 cd6 ct6 : Value} {f6 : Addr}
    (a6 : PySem.W.nsIn K mainGlobals "sum_at_one" = some (some (.ref f6))) (l6 : K.lookup f6 = some ⟨oc6, od6, .func (PySem.W.fnOf "sum_at_one" "sum_at_one" (defArgs s_sum_at_one) (defBody s_sum_at_one) (defScope s_sum_at_one) .none kV6 dc6 pm6 an6 cd6 ct6), sl6⟩) (c6 : PySem.W.codeIn K cd6 "sum_at_one" = true) (k6 : PySem.W.keepIn K (.ref f6) = true)
    {od7 an7 : Option Addr} {sl7 : Array (Option Value)} {oc7 kV7 dc7 pm7 cd7 ct7 : Value} {f7 : Addr}
    (a7 : PySem.W.nsIn K mainGlobals "_law_source" = some (some (.ref f7))) (l7 : K.lookup f7 = some ⟨oc7, od7, .func (PySem.W.fnOf "_law_source" "_law_source" (defArgs s__law_source) (defBody s__law_source) (defScope s__law_source) .none kV7 dc7 pm7 an7 cd7 ct7), sl7⟩) (c7 : PySem.W.codeIn K cd7 "_law_source" = true) (k7 : PySem.W.keepIn K (.ref f7) = true)
    {od8 an8 : Option Addr} {sl8 : Array (Option Value)} {oc8 kV8 dc8 pm8 cd8 ct8 : Value} {f8 : Addr}
    (a8 : PySem.W.nsIn K mainGlobals "_law_pick" = some (some (.ref f8))) (l8 : K.lookup f8 = some ⟨oc8, od8, .func (PySem.W.fnOf "_law_pick" "_law_pick" (defArgs s__law_pick) (defBody s__law_pick) (defScope s__law_pick) .none kV8 dc8 pm8 an8 cd8 ct8), sl8⟩) (c8 : PySem.W.codeIn K cd8 "_law_pick" = true) (k8 : PySem.W.keepIn K (.ref f8) = true)
    {od9 an9 : Option Addr} {sl9 : Array (Option Value)} {oc9 kV9 dc9 pm9 cd9 ct9 : Value} {f9 : Addr}
    (a9 : PySem.W.nsIn K mainGlobals "_law_of" = some (some (.ref f9))) (l9 : K.lookup f9 = some ⟨oc9, od9, .func (PySem.W.fnOf "_law_of" "_law_of" (defArgs s__law_of) (defBody s__law_of) (defScope s__law_of) .none kV9 dc9 pm9 an9 cd9 ct9), sl9⟩) (c9 : PySem.W.codeIn K cd9 "_law_of" = true) (k9 : PySem.W.keepIn K (.ref f9) = true)
    {od10 an10 : Option Addr} {sl10 : Array (Option Value)} {oc10 kV10 dc10 pm10 cd10 ct10 : Value} {f10 : Addr}
    (a10 : PySem.W.nsIn K mainGlobals "_law_told" = some (some (.ref f10))) (l10 : K.lookup f10 = some ⟨oc10, od10, .func (PySem.W.fnOf "_law_told" "_law_told" (defArgs s__law_told) (defBody s__law_told) (defScope s__law_told) .none kV10 dc10 pm10 an10 cd10 ct10), sl10⟩) (c10 : PySem.W.codeIn K cd10 "_law_told" = true) (k10 : PySem.W.keepIn K (.ref f10) = true)
    {od11 an11 : Option Addr} {sl11 : Array (Option Value)} {oc11 kV11 dc11 pm11 cd11 ct11 : Value} {f11 : Addr}
    (a11 : PySem.W.nsIn K mainGlobals "_law_added" = some (some (.ref f11))) (l11 : K.lookup f11 = some ⟨oc11, od11, .func (PySem.W.fnOf "_law_added" "_law_added" (defArgs s__law_added) (defBody s__law_added) (defScope s__law_added) .none kV11 dc11 pm11 an11 cd11 ct11), sl11⟩) (c11 : PySem.W.codeIn K cd11 "_law_added" = true) (k11 : PySem.W.keepIn K (.ref f11) = true)
    {od12 an12 : Option Addr} {sl12 : Array (Option Value)} {oc12 kV12 dc12 pm12 cd12 ct12 : Value} {f12 : Addr}
    (a12 : PySem.W.nsIn K mainGlobals "_law_times" = some (some (.ref f12))) (l12 : K.lookup f12 = some ⟨oc12, od12, .func (PySem.W.fnOf "_law_times" "_law_times" (defArgs s__law_times) (defBody s__law_times) (defScope s__law_times) .none kV12 dc12 pm12 an12 cd12 ct12), sl12⟩) (c12 : PySem.W.codeIn K cd12 "_law_times" = true) (k12 : PySem.W.keepIn K (.ref f12) = true)
    {od13 an13 : Option Addr} {sl13 : Array (Option Value)} {oc13 kV13 dc13 pm13 cd13 ct13 : Value} {f13 : Addr}
    (a13 : PySem.W.nsIn K mainGlobals "_law_loops" = some (some (.ref f13))) (l13 : K.lookup f13 = some ⟨oc13, od13, .func (PySem.W.fnOf "_law_loops" "_law_loops" (defArgs s__law_loops) (defBody s__law_loops) (defScope s__law_loops) .none kV13 dc13 pm13 an13 cd13 ct13), sl13⟩) (c13 : PySem.W.codeIn K cd13 "_law_loops" = true) (k13 : PySem.W.keepIn K (.ref f13) = true)
    {od14 an14 : Option Addr} {sl14 : Array (Option Value)} {oc14 kV14 dc14 pm14 cd14 ct14 : Value} {f14 : Addr}
    (a14 : PySem.W.nsIn K mainGlobals "_law_sum" = some (some (.ref f14))) (l14 : K.lookup f14 = some ⟨oc14, od14, .func (PySem.W.fnOf "_law_sum" "_law_sum" (defArgs s__law_sum) (defBody s__law_sum) (defScope s__law_sum) .none kV14 dc14 pm14 an14 cd14 ct14), sl14⟩) (c14 : PySem.W.codeIn K cd14 "_law_sum" = true) (k14 : PySem.W.keepIn K (.ref f14) = true)
    {od15 an15 : Option Addr} {sl15 : Array (Option Value)} {oc15 kV15 dc15 pm15 cd15 ct15 : Value} {f15 : Addr}
    (a15 : PySem.W.nsIn K mainGlobals "_law_is_int" = some (some (.ref f15))) (l15 : K.lookup f15 = some ⟨oc15, od15, .func (PySem.W.fnOf "_law_is_int" "_law_is_int" (defArgs s__law_is_int) (defBody s__law_is_int) (defScope s__law_is_int) .none kV15 dc15 pm15 an15 cd15 ct15), sl15⟩) (c15 : PySem.W.codeIn K cd15 "_law_is_int" = true) (k15 : PySem.W.keepIn K (.ref f15) = true)
    {od16 an16 : Option Addr} {sl16 : Array (Option Value)} {oc16 kV16 dc16 pm16 cd16 ct16 : Value} {f16 : Addr}
    (a16 : PySem.W.nsIn K mainGlobals "_law_is_sum" = some (some (.ref f16))) (l16 : K.lookup f16 = some ⟨oc16, od16, .func (PySem.W.fnOf "_law_is_sum" "_law_is_sum" (defArgs s__law_is_sum) (defBody s__law_is_sum) (defScope s__law_is_sum) .none kV16 dc16 pm16 an16 cd16 ct16), sl16⟩) (c16 : PySem.W.codeIn K cd16 "_law_is_sum" = true) (k16 : PySem.W.keepIn K (.ref f16) = true)
    {od17 an17 : Option Addr} {sl17 : Array (Option Value)} {oc17 kV17 dc17 pm17 cd17 ct17 : Value} {f17 : Addr}
    (a17 : PySem.W.nsIn K mainGlobals "_law_near" = some (some (.ref f17))) (l17 : K.lookup f17 = some ⟨oc17, od17, .func (PySem.W.fnOf "_law_near" "_law_near" (defArgs s__law_near) (defBody s__law_near) (defScope s__law_near) .none kV17 dc17 pm17 an17 cd17 ct17), sl17⟩) (c17 : PySem.W.codeIn K cd17 "_law_near" = true) (k17 : PySem.W.keepIn K (.ref f17) = true)
    {od18 an18 : Option Addr} {sl18 : Array (Option Value)} {oc18 kV18 dc18 pm18 cd18 ct18 : Value} {f18 : Addr}
    (a18 : PySem.W.nsIn K mainGlobals "law" = some (some (.ref f18))) (l18 : K.lookup f18 = some ⟨oc18, od18, .func (PySem.W.fnOf "law" "law" (defArgs s_law) (defBody s_law) (defScope s_law) .none kV18 dc18 pm18 an18 cd18 ct18), sl18⟩) (c18 : PySem.W.codeIn K cd18 "law" = true) (k18 : PySem.W.keepIn K (.ref f18) = true)
    (w_abs : PySem.W.nsIn K mainGlobals "abs" = some none)
    (w_all : PySem.W.nsIn K mainGlobals "all" = some none)
    (w_bool : PySem.W.nsIn K mainGlobals "bool" = some none)
    (w_dict : PySem.W.nsIn K mainGlobals "dict" = some none)
    (w_int : PySem.W.nsIn K mainGlobals "int" = some none)
    (w_isinstance : PySem.W.nsIn K mainGlobals "isinstance" = some none)
    (w_len : PySem.W.nsIn K mainGlobals "len" = some none)
    (w_list : PySem.W.nsIn K mainGlobals "list" = some none)
    (w_max : PySem.W.nsIn K mainGlobals "max" = some none)
    (w_range : PySem.W.nsIn K mainGlobals "range" = some none)
    (w_repr : PySem.W.nsIn K mainGlobals "repr" = some none)
    (w_sorted : PySem.W.nsIn K mainGlobals "sorted" = some none)
    (w_sum : PySem.W.nsIn K mainGlobals "sum" = some none)
    (w_tuple : PySem.W.nsIn K mainGlobals "tuple" = some none)
    {ta_LOOP tb_LOOP tc_LOOP : Addr} {oa_LOOP ob_LOOP oc_LOOP : Option Addr} {sa_LOOP sb_LOOP sc_LOOP : Array (Option Value)} {na_LOOP nb_LOOP nc_LOOP ti_LOOP tj_LOOP tk_LOOP tl_LOOP : Nat}
    (g0_LOOP : PySem.W.nsIn K mainGlobals "LOOP" = some (some (.ref ta_LOOP))) (g1_LOOP : K.lookup ta_LOOP = some ⟨.type "tuple", oa_LOOP, .seq #[.ref tb_LOOP, .ref tc_LOOP] na_LOOP, sa_LOOP⟩) (g2_LOOP : K.lookup tb_LOOP = some ⟨.type "tuple", ob_LOOP, .seq #[.int (-2) ti_LOOP, .int (-1) tj_LOOP] nb_LOOP, sb_LOOP⟩) (g3_LOOP : K.lookup tc_LOOP = some ⟨.type "tuple", oc_LOOP, .seq #[.int (2) tk_LOOP, .int (-1) tl_LOOP] nc_LOOP, sc_LOOP⟩)
    : FnD P w K mg base 12 "law" [.frz] .frz m_law := by
  have z_abs : mg "abs" = none := PySem.W.mg_none_of X G w_abs
  have z_all : mg "all" = none := PySem.W.mg_none_of X G w_all
  have z_bool : mg "bool" = none := PySem.W.mg_none_of X G w_bool
  have z_dict : mg "dict" = none := PySem.W.mg_none_of X G w_dict
  have z_int : mg "int" = none := PySem.W.mg_none_of X G w_int
  have z_isinstance : mg "isinstance" = none := PySem.W.mg_none_of X G w_isinstance
  have z_len : mg "len" = none := PySem.W.mg_none_of X G w_len
  have z_list : mg "list" = none := PySem.W.mg_none_of X G w_list
  have z_max : mg "max" = none := PySem.W.mg_none_of X G w_max
  have z_range : mg "range" = none := PySem.W.mg_none_of X G w_range
  have z_repr : mg "repr" = none := PySem.W.mg_none_of X G w_repr
  have z_sorted : mg "sorted" = none := PySem.W.mg_none_of X G w_sorted
  have z_sum : mg "sum" = none := PySem.W.mg_none_of X G w_sum
  have z_tuple : mg "tuple" = none := PySem.W.mg_none_of X G w_tuple
  have m_LOOP := PySem.W.mg_of X G g0_LOOP
  have r_LOOP := top_pairs g1_LOOP g2_LOOP g3_LOOP rfl rfl
  have D_is_power_sum := ok_is_power_sum (P := P) (w := w) (base := base) (k := 0) (fun_mk (st := s_is_power_sum) l0 c0 k0) (PySem.W.mg_of X G a0) z_all z_bool z_int z_isinstance z_len z_range z_tuple
  have D_told_powers := ok_told_powers (P := P) (w := w) (base := base) (k := 0) (fun_mk (st := s_told_powers) l1 c1 k1) (PySem.W.mg_of X G a1) z_sorted z_tuple
  have D_added_powers := ok_added_powers (P := P) (w := w) (base := base) (k := 1) (fun_mk (st := s_added_powers) l2 c2 k2) (PySem.W.mg_of X G a2) (D_told_powers.up (by decide)) z_dict
  have D_multiplied_powers := ok_multiplied_powers (P := P) (w := w) (base := base) (k := 1) (fun_mk (st := s_multiplied_powers) l3 c3 k3) (PySem.W.mg_of X G a3) (D_told_powers.up (by decide))
  have D_turned_powers := ok_turned_powers (P := P) (w := w) (base := base) (k := 0) (fun_mk (st := s_turned_powers) l4 c4 k4) (PySem.W.mg_of X G a4) z_sorted z_tuple
  have D_loops_taken := ok_loops_taken (P := P) (w := w) (base := base) (k := 2) (fun_mk (st := s_loops_taken) l5 c5 k5) (PySem.W.mg_of X G a5) (D_multiplied_powers.up (by decide)) m_LOOP r_LOOP z_range
  have D_sum_at_one := ok_sum_at_one (P := P) (w := w) (base := base) (k := 0) (fun_mk (st := s_sum_at_one) l6 c6 k6) (PySem.W.mg_of X G a6) z_sum
  have D__law_source := ok__law_source (P := P) (w := w) (base := base) (k := 0) (fun_mk (st := s__law_source) l7 c7 k7) (PySem.W.mg_of X G a7) z_abs z_int
  have D__law_pick := ok__law_pick (P := P) (w := w) (base := base) (k := 0) (fun_mk (st := s__law_pick) l8 c8 k8) (PySem.W.mg_of X G a8) z_int z_len z_max
  have D__law_of := ok__law_of (P := P) (w := w) (base := base) (k := 1) (fun_mk (st := s__law_of) l9 c9 k9) (PySem.W.mg_of X G a9) (D__law_pick.up (by decide)) z_len
  have D__law_told := ok__law_told (P := P) (w := w) (base := base) (k := 0) (fun_mk (st := s__law_told) l10 c10 k10) (PySem.W.mg_of X G a10) z_sorted z_tuple
  have D__law_added := ok__law_added (P := P) (w := w) (base := base) (k := 1) (fun_mk (st := s__law_added) l11 c11 k11) (PySem.W.mg_of X G a11) (D__law_told.up (by decide)) z_dict
  have D__law_times := ok__law_times (P := P) (w := w) (base := base) (k := 1) (fun_mk (st := s__law_times) l12 c12 k12) (PySem.W.mg_of X G a12) (D__law_told.up (by decide))
  have D__law_loops := ok__law_loops (P := P) (w := w) (base := base) (k := 2) (fun_mk (st := s__law_loops) l13 c13 k13) (PySem.W.mg_of X G a13) (D__law_times.up (by decide)) z_range
  have D__law_sum := ok__law_sum (P := P) (w := w) (base := base) (k := 2) (fun_mk (st := s__law_sum) l14 c14 k14) (PySem.W.mg_of X G a14) (D__law_pick.up (by decide)) (D__law_of.up (by decide)) (D__law_told.up (by decide)) z_range
  have D__law_is_int := ok__law_is_int (P := P) (w := w) (base := base) (k := 0) (fun_mk (st := s__law_is_int) l15 c15 k15) (PySem.W.mg_of X G a15) z_bool z_int z_isinstance
  have D__law_is_sum := ok__law_is_sum (P := P) (w := w) (base := base) (k := 1) (fun_mk (st := s__law_is_sum) l16 c16 k16) (PySem.W.mg_of X G a16) (D__law_is_int.up (by decide)) z_isinstance z_len z_range z_tuple
  have D__law_near := FnD.recN (k := 3) (no__law_near (P := P) (w := w) (base := base) (fun_mk (st := s__law_near) l17 c17 k17) (PySem.W.mg_of X G a17)) (fun j rec_ hj D_ => ok__law_near (P := P) (w := w) (base := base) (k := j) (fun_mk (st := s__law_near) l17 c17 k17) (PySem.W.mg_of X G a17) (D__law_is_int.up (Nat.le_trans (by decide : 1 ≤ 3) hj)) (D__law_pick.up (Nat.le_trans (by decide : 1 ≤ 3) hj)) (D__law_of.up (Nat.le_trans (by decide : 2 ≤ 3) hj)) D_ z_isinstance z_len z_list z_tuple) 8
  have D_law := ok_law (P := P) (w := w) (base := base) (k := 11) (fun_mk (st := s_law) l18 c18 k18) (PySem.W.mg_of X G a18) (D__law_source.up (by decide)) (D__law_sum.up (by decide)) (D__law_pick.up (by decide)) (D_added_powers.up (by decide)) (D__law_added.up (by decide)) (D__law_times.up (by decide)) (D_multiplied_powers.up (by decide)) (D_turned_powers.up (by decide)) (D_sum_at_one.up (by decide)) (D_loops_taken.up (by decide)) (D__law_loops.up (by decide)) (D__law_near.up (by decide)) (D_is_power_sum.up (by decide)) (D__law_is_sum.up (by decide)) m_LOOP r_LOOP z_list z_range z_repr z_sum z_tuple
  exact D_law
end K16

namespace K16
open PySem PySem.Spec PyProof.Rows L2 DL
/-! typed functions of law_k16_power_sums -/
theorem k__law_pick : FTS (α := Int × Unit) m_law_pick 1 (fC eI f0) eI (fun p s => pickT p.1 s) := pick_fts
theorem k__law_source : FT (α := List Int × Unit) m_law_source 1 (fC (eL eI) f0) eX (fun p => sourceT p.1) := source_ft
theorem k__law_ofL {α : Type} {ea : α → PyData} : FTS (α := List α × Unit) m_law_of 1 (fC (eL ea) f0) ea (fun p s => ofT p.1 s) := of_ftsL
def l0_is_power_sum  (st : Unit) (y : PyData) : Option (Ctl Bool Unit) := Option.bind (if (!(isiT (tyD (eA y)) "tuple")) = true then some true else (Option.bind (Option.bind (lenD [eA y]) asI) fun x => some ((!decide (x = 2))))) fun b_ => if b_ = true then (some (Ctl.rt false)) else Option.bind (Option.bind (Option.bind (Option.bind (Option.bind (itsOf y) fun x_1 => compG (fun (y_1 : PyData) => (some true)) (fun (y_1 : PyData) => (some ((isiT (tyD (eA y_1)) "int") && (!(isiT (tyD (eA y_1)) "bool"))))) x_1) fun x_2 => some ((List.all x_2 id))) fun x_3 => some ((!x_3))) fun x_ => if x_ = true then some true else (Option.bind (itemD (eA y) (eI 1)) fun x_4 => Option.bind (eqE (eA x_4) (eI 0)) bOf)) fun b_ => if b_ = true then (some (Ctl.rt false)) else (some (Ctl.nx ()))
def t_is_power_sum (value : PyData) : Option Bool := if (!(isiT (tyD (eA value)) "tuple")) = true then ((some false)) else Option.bind (Option.bind (itsOf value) fun x_ => forC l0_is_power_sum x_ ()) (ctlK (σ := Unit) (fun v_ => v_) (fun _ => none) (fun _ => none) fun st_1 => (Option.bind (Option.bind (Option.bind (Option.bind (lenD [eA value]) asI) fun x_6 => rng2T 1 x_6) fun x_11 => compG (fun (y_2 : Int) => (Option.bind (Option.bind (itemD (eA value) (eI y_2)) fun x_7 => itemD (eA x_7) (eI 0)) fun x_9 => Option.bind (Option.bind (itemD (eA value) (eI (y_2 - 1))) fun x_8 => itemD (eA x_8) (eI 0)) fun x_10 => Option.bind (leD (eA x_9) (eA x_10)) bOf)) (fun (y_2 : Int) => (some y_2)) x_11) fun x_12 => some ((decide (x_12 = ([] : (List Int)))))))
theorem k_is_power_sum : FT m_is_power_sum 1 (fC eA f0) eB (fun p_ => t_is_power_sum p_.1) :=
  ft_ofK rfl (fun _ => rfl) rfl (by decide) (fun (value, ()) => by
    unfold t_is_power_sum
    refine xb_weak (L' := [(some (some (eA value))), (some none), (some none), (some none)]) ?_ ⟨rfl, rfl, rfl, rfl, trivial⟩
    refine xb_ifGT ?_ gone_ret ?_ ?_
    · exact (xt_cv (t' := some (!(isiT (tyD (eA value)) "tuple"))) (xt_not (xt_test (x_cv (t' := some (isiT (tyD (eA value)) "tuple")) (x_isi (ea := eA) (c := "tuple") rfl (xo_val (x_var (ea := eA) (v := value) rfl))) rfl))) rfl)
    · refine xb_weak (L' := [(some (some (eA value))), (some none), (some none), (some none)]) ?_ ⟨rfl, rfl, rfl, rfl, trivial⟩
      exact (xb_retI (rv_ok rfl) (XP.w (x_c (ea := eB) (v := false) rfl)))
    · refine xb_weak (L' := [(some (some (eA value))), (some none), (some none), (some none)]) ?_ ⟨rfl, rfl, rfl, rfl, trivial⟩
      refine xb_thnC (σ := Unit) (Rr := (RV 4 eB)) (env := (fun (st_ : Unit) => [(some (some (eA value))), none, (some none), (some none)])) (kb := fun _ => none) (kc := fun _ => none) (k := (fun v_ => v_)) (fun _ _ h_ => h_) rv_nn (fun _ _ h_ => nomatch h_) (fun _ _ h_ => nomatch h_) ?_ fun st_1 => ?_
      · refine xb_forC (ea := eA) (env := (fun (st_ : Unit) => [(some (some (eA value))), none, (some none), (some none)])) (f := l0_is_power_sum) (s0 := ()) (L := [(some (some (eA value))), (some none), (some none), (some none)]) (Rr := (RV 4 eB)) rv_rt ?_ ⟨rfl, rfl, rfl, trivial⟩ (fun st y => xg_nm) (fun st y => ?_)
        · exact (xi2 (xi_anyT (x_var (ea := eA) (v := value) rfl)))
        · unfold l0_is_power_sum
          refine xb_weak (L' := [(some (some (eA value))), (some (some (eA y))), (some none), (some none)]) ?_ ⟨rfl, rfl, rfl, rfl, trivial⟩
          refine xb_ifG ?_ gone_ret ?_ ?_
          · exact (xt_cv (t' := (if (!(isiT (tyD (eA y)) "tuple")) = true then some true else (Option.bind (Option.bind (lenD [eA y]) asI) fun x => some ((!decide (x = 2)))))) (xt_or (xt_cv (t' := some (!(isiT (tyD (eA y)) "tuple"))) (xt_not (xt_test (x_cv (t' := some (isiT (tyD (eA y)) "tuple")) (x_isi (ea := eA) (c := "tuple") rfl (xo_val (x_var (ea := eA) (v := y) rfl))) rfl))) rfl) (xt_test (x_cv (t' := (Option.bind (Option.bind (lenD [eA y]) asI) fun x => some ((!decide (x = 2))))) (x_bin (ea := eI) (eb := eI) (ec := eB) (f := (fun a_ b_ => some ((!decide (a_ = b_))))) (q_ne eqI) (xo_val (x_callBT (ec := eI) (f := (fun (p_ : PyData × Unit) => Option.bind (lenD [eA p_.1]) asI)) (p := (y, ())) (q_extB (ea := eA) asI_x) (xa_cv (t' := some (y, ())) (xa_cons (o1 := false) (o2 := false) (xo_val (x_var (ea := eA) (v := y) rfl)) xa_nil) rfl) okf)) (xo_val (x_c (ea := eI) (v := 2) rfl)) okf) (by first | with_reducible rfl | simp -implicitDefEqProofs only [Option.map_eq_bind, Option.bind_assoc, Option.bind_some, Function.comp_def] | rfl)))) rfl)
          · refine xb_weak (L' := [(some (some (eA value))), (some (some (eA y))), (some none), (some none)]) ?_ ⟨rfl, rfl, rfl, rfl, trivial⟩
            exact (xb_cv (xb_ret (k := fun v_ => (Ctl.rt v_)) (rv_ok rfl) (XP.w (x_c (ea := eB) (v := false) rfl))) rfl)
          · refine xb_weak (L' := [(some (some (eA value))), (some (some (eA y))), (some none), (some none)]) ?_ ⟨rfl, rfl, rfl, rfl, trivial⟩
            refine xb_if ?_ ?_ ?_
            · exact (xt_cv (t' := (Option.bind (Option.bind (Option.bind (Option.bind (itsOf y) fun x_1 => compG (fun (y_1 : PyData) => (some true)) (fun (y_1 : PyData) => (some ((isiT (tyD (eA y_1)) "int") && (!(isiT (tyD (eA y_1)) "bool"))))) x_1) fun x_2 => some ((List.all x_2 id))) fun x_3 => some ((!x_3))) fun x_ => if x_ = true then some true else (Option.bind (itemD (eA y) (eI 1)) fun x_4 => Option.bind (eqE (eA x_4) (eI 0)) bOf))) (xt_or (xt_cv (t' := (Option.bind (Option.bind (Option.bind (itsOf y) fun x_1 => compG (fun (y_1 : PyData) => (some true)) (fun (y_1 : PyData) => (some ((isiT (tyD (eA y_1)) "int") && (!(isiT (tyD (eA y_1)) "bool"))))) x_1) fun x_2 => some ((List.all x_2 id))) fun x_3 => some ((!x_3)))) (xt_not (xt_test (x_cv (t' := (Option.bind (Option.bind (itsOf y) fun x_1 => compG (fun (y_1 : PyData) => (some true)) (fun (y_1 : PyData) => (some ((isiT (tyD (eA y_1)) "int") && (!(isiT (tyD (eA y_1)) "bool"))))) x_1) fun x_2 => some ((List.all x_2 id)))) (x_callB (ec := eB) (f := (fun (p_ : (List Bool) × Unit) => some ((List.all p_.1 id)))) q_all (xa_cons (o1 := false) (o2 := false) (xo_val (x_cv (t' := (Option.bind (itsOf y) fun x_1 => compG (fun (y_1 : PyData) => (some true)) (fun (y_1 : PyData) => (some ((isiT (tyD (eA y_1)) "int") && (!(isiT (tyD (eA y_1)) "bool"))))) x_1)) (x_compI (ea := eA) (eb := eB) (p := fun (y_1 : PyData) => (some true)) (f := fun (y_1 : PyData) => (some ((isiT (tyD (eA y_1)) "int") && (!(isiT (tyD (eA y_1)) "bool"))))) (xi_anyT (x_var (ea := eA) (v := y) rfl)) (fun y_1 => xg_nm) (fun y_1 => ⟨rfl, rfl, rfl, rfl, trivial⟩) (fun y_1 => xt_yes) (fun y_1 => (x_cv (t' := some ((isiT (tyD (eA y_1)) "int") && (!(isiT (tyD (eA y_1)) "bool")))) (x_andT (x_cv (t' := some (isiT (tyD (eA y_1)) "int")) (x_isi (ea := eA) (c := "int") rfl (xo_val (x_var (ea := eA) (v := y_1) rfl))) rfl) (x_cv (t' := some (!(isiT (tyD (eA y_1)) "bool"))) (x_not (x_cv (t' := some (isiT (tyD (eA y_1)) "bool")) (x_isi (ea := eA) (c := "bool") rfl (xo_val (x_var (ea := eA) (v := y_1) rfl))) rfl)) rfl)) rfl))) rfl)) xa_nil) okf) (by first | with_reducible rfl | simp -implicitDefEqProofs only [Option.map_eq_bind, Option.bind_assoc, Option.bind_some, Function.comp_def] | rfl)))) (by first | with_reducible rfl | simp -implicitDefEqProofs only [Option.map_eq_bind, Option.bind_assoc, Option.bind_some, Function.comp_def] | rfl)) (xt_test (x_cv (t' := (Option.bind (itemD (eA y) (eI 1)) fun x_4 => Option.bind (eqE (eA x_4) (eI 0)) bOf)) (x_bin (ea := eA) (eb := eI) (ec := eB) (f := (fun a_ b_ => Option.bind (eqE (eA a_) (eI b_)) bOf)) (q_ext2 bOf_x) (xo_val (x_binT (ea := eA) (eb := eI) (ec := eA) (f := (fun a_ b_ => itemD (eA a_) (eI b_))) (a := y) (b := 1) q_any2 (xo_val (x_var (ea := eA) (v := y) rfl)) (xo_val (x_c (ea := eI) (v := 1) rfl)) okf)) (xo_val (x_c (ea := eI) (v := 0) rfl)) okf) (by first | with_reducible rfl | simp -implicitDefEqProofs only [Option.map_eq_bind, Option.bind_assoc, Option.bind_some, Function.comp_def] | rfl)))) rfl)
            · refine xb_weak (L' := [(some (some (eA value))), (some (some (eA y))), (some none), (some none)]) ?_ ⟨rfl, rfl, rfl, rfl, trivial⟩
              exact (xb_cv (xb_ret (k := fun v_ => (Ctl.rt v_)) (rv_ok rfl) (XP.w (x_c (ea := eB) (v := false) rfl))) rfl)
            · exact (xb_nxc (Rr := (RV 4 eB)) (env := (fun (st_ : Unit) => [(some (some (eA value))), none, (some none), (some none)])) (s := ()) ⟨rfl, rfl, rfl, trivial⟩)
      · refine xb_weak (L' := [(some (some (eA value))), none, (some none), (some none)]) ?_ ⟨rfl, rfl, rfl, trivial⟩
        exact (xb_retI (rv_ok rfl) (XP.w (x_cv (t' := (Option.bind (Option.bind (Option.bind (Option.bind (lenD [eA value]) asI) fun x_6 => rng2T 1 x_6) fun x_11 => compG (fun (y_2 : Int) => (Option.bind (Option.bind (itemD (eA value) (eI y_2)) fun x_7 => itemD (eA x_7) (eI 0)) fun x_9 => Option.bind (Option.bind (itemD (eA value) (eI (y_2 - 1))) fun x_8 => itemD (eA x_8) (eI 0)) fun x_10 => Option.bind (leD (eA x_9) (eA x_10)) bOf)) (fun (y_2 : Int) => (some y_2)) x_11) fun x_12 => some ((decide (x_12 = ([] : (List Int))))))) (x_bin (ea := (eL eI)) (eb := (eL eI)) (ec := eB) (f := (fun a_ b_ => some ((decide (a_ = b_))))) (q_eqE (q_eq (eqL eqI))) (xo_val (x_cv (t' := (Option.bind (Option.bind (Option.bind (lenD [eA value]) asI) fun x_6 => rng2T 1 x_6) fun x_11 => compG (fun (y_2 : Int) => (Option.bind (Option.bind (itemD (eA value) (eI y_2)) fun x_7 => itemD (eA x_7) (eI 0)) fun x_9 => Option.bind (Option.bind (itemD (eA value) (eI (y_2 - 1))) fun x_8 => itemD (eA x_8) (eI 0)) fun x_10 => Option.bind (leD (eA x_9) (eA x_10)) bOf)) (fun (y_2 : Int) => (some y_2)) x_11)) (x_compI (ea := eI) (eb := eI) (p := fun (y_2 : Int) => (Option.bind (Option.bind (itemD (eA value) (eI y_2)) fun x_7 => itemD (eA x_7) (eI 0)) fun x_9 => Option.bind (Option.bind (itemD (eA value) (eI (y_2 - 1))) fun x_8 => itemD (eA x_8) (eI 0)) fun x_10 => Option.bind (leD (eA x_9) (eA x_10)) bOf)) (f := fun (y_2 : Int) => (some y_2)) (xi_cv (t' := (Option.bind (Option.bind (lenD [eA value]) asI) fun x_6 => rng2T 1 x_6)) (xi_rng2 (xa_cv (t' := (Option.bind (Option.bind (lenD [eA value]) asI) fun x_5 => some ((1, x_5, ())))) (xa_cons (o1 := false) (o2 := false) (xo_val (x_c (ea := eI) (v := 1) rfl)) (xa_cons (o1 := false) (o2 := false) (xo_val (x_callBT (ec := eI) (f := (fun (p_ : PyData × Unit) => Option.bind (lenD [eA p_.1]) asI)) (p := (value, ())) (q_extB (ea := eA) asI_x) (xa_cv (t' := some (value, ())) (xa_cons (o1 := false) (o2 := false) (xo_val (x_var (ea := eA) (v := value) rfl)) xa_nil) rfl) okf)) xa_nil)) (by first | with_reducible rfl | simp -implicitDefEqProofs only [Option.map_eq_bind, Option.bind_assoc, Option.bind_some, Function.comp_def] | rfl))) (by first | with_reducible rfl | simp -implicitDefEqProofs only [Option.map_eq_bind, Option.bind_assoc, Option.bind_some, Function.comp_def] | rfl)) (fun y_2 => xg_nm) (fun y_2 => ⟨rfl, rfl, rfl, trivial⟩) (fun y_2 => (xt_test (x_cv (t' := (Option.bind (Option.bind (itemD (eA value) (eI y_2)) fun x_7 => itemD (eA x_7) (eI 0)) fun x_9 => Option.bind (Option.bind (itemD (eA value) (eI (y_2 - 1))) fun x_8 => itemD (eA x_8) (eI 0)) fun x_10 => Option.bind (leD (eA x_9) (eA x_10)) bOf)) (x_bin (ea := eA) (eb := eA) (ec := eB) (f := (fun a_ b_ => Option.bind (leD (eA a_) (eA b_)) bOf)) (q_ext2 bOf_x) (xo_val (x_cv (t' := (Option.bind (itemD (eA value) (eI y_2)) fun x_7 => itemD (eA x_7) (eI 0))) (x_bin (ea := eA) (eb := eI) (ec := eA) (f := (fun a_ b_ => itemD (eA a_) (eI b_))) q_any2 (xo_val (x_binT (ea := eA) (eb := eI) (ec := eA) (f := (fun a_ b_ => itemD (eA a_) (eI b_))) (a := value) (b := y_2) q_any2 (xo_val (x_var (ea := eA) (v := value) rfl)) (xo_val (x_var (ea := eI) (v := y_2) rfl)) okf)) (xo_val (x_c (ea := eI) (v := 0) rfl)) okf) (by first | with_reducible rfl | simp -implicitDefEqProofs only [Option.map_eq_bind, Option.bind_assoc, Option.bind_some, Function.comp_def] | rfl))) (xo_val (x_cv (t' := (Option.bind (itemD (eA value) (eI (y_2 - 1))) fun x_8 => itemD (eA x_8) (eI 0))) (x_bin (ea := eA) (eb := eI) (ec := eA) (f := (fun a_ b_ => itemD (eA a_) (eI b_))) q_any2 (xo_val (x_binT (ea := eA) (eb := eI) (ec := eA) (f := (fun a_ b_ => itemD (eA a_) (eI b_))) (a := value) (b := (y_2 - 1)) q_any2 (xo_val (x_var (ea := eA) (v := value) rfl)) (xo_val (x_cv (t' := some (y_2 - 1)) (x_bin (ea := eI) (eb := eI) (ec := eI) (f := (fun a_ b_ => some ((a_ - b_)))) q_sub (xo_val (x_var (ea := eI) (v := y_2) rfl)) (xo_val (x_c (ea := eI) (v := 1) rfl)) okf) rfl)) okf)) (xo_val (x_c (ea := eI) (v := 0) rfl)) okf) (by first | with_reducible rfl | simp -implicitDefEqProofs only [Option.map_eq_bind, Option.bind_assoc, Option.bind_some, Function.comp_def] | rfl))) okf) (by first | with_reducible rfl | simp -implicitDefEqProofs only [Option.map_eq_bind, Option.bind_assoc, Option.bind_some, Function.comp_def] | rfl)))) (fun y_2 => (x_var (ea := eI) (v := y_2) rfl))) rfl)) (xo_val (x_cv (t' := some ([] : (List Int))) (x_up (ea := (fun p_ => PyData.list (f0 p_))) (eb := (eL eI)) (fun x_ => []) (fun _ => rfl) (x_lst (xa_cv (t' := some (())) xa_nil rfl) (fun _ => (by decide : 0 ≤ 1000)))) rfl)) okf) (by first | with_reducible rfl | simp -implicitDefEqProofs only [Option.map_eq_bind, Option.bind_assoc, Option.bind_some, Function.comp_def] | rfl)))))
def t_told_powers (numbers : PyData) : Option (List (Int × Int)) := (Option.bind (Option.bind (Option.bind (sortedC [eA numbers]) (cvL asI)) fun x_3 => compG (fun (y : Int) => (Option.bind (Option.bind (fGetT numbers (eI y)) asI) fun x => some ((!decide (x = 0))))) (fun (y : Int) => (Option.bind (Option.bind (fGetT numbers (eI y)) asI) fun x_2 => some ((y, x_2)))) x_3) fun x_4 => some (x_4))
theorem k_told_powers : FT m_told_powers 1 (fC eA f0) (eT (eTu (fC eI (f1 eI)))) (fun p_ => t_told_powers p_.1) :=
  ft_ofK rfl (fun _ => rfl) rfl (by decide) (fun (numbers, ()) => by
    unfold t_told_powers
    refine xb_weak (L' := [(some (some (eA numbers))), (some none)]) ?_ ⟨rfl, rfl, trivial⟩
    exact (xb_retI (rv_ok rfl) (XP.w (x_cv (t' := (Option.bind (Option.bind (Option.bind (sortedC [eA numbers]) (cvL asI)) fun x_3 => compG (fun (y : Int) => (Option.bind (Option.bind (fGetT numbers (eI y)) asI) fun x => some ((!decide (x = 0))))) (fun (y : Int) => (Option.bind (Option.bind (fGetT numbers (eI y)) asI) fun x_2 => some ((y, x_2)))) x_3) fun x_4 => some (x_4))) (x_callB (ec := (eT (eTu (fC eI (f1 eI))))) (f := (fun (p_ : (List (Int × Int)) × Unit) => some (p_.1))) (q_tupP (ea := (eTu (fC eI (f1 eI)))) (kt_of fun _ => rfl)) (xa_cons (o1 := false) (o2 := false) (xo_val (x_cv (t' := (Option.bind (Option.bind (sortedC [eA numbers]) (cvL asI)) fun x_3 => compG (fun (y : Int) => (Option.bind (Option.bind (fGetT numbers (eI y)) asI) fun x => some ((!decide (x = 0))))) (fun (y : Int) => (Option.bind (Option.bind (fGetT numbers (eI y)) asI) fun x_2 => some ((y, x_2)))) x_3)) (x_compI (ea := eI) (eb := (eTu (fC eI (f1 eI)))) (p := fun (y : Int) => (Option.bind (Option.bind (fGetT numbers (eI y)) asI) fun x => some ((!decide (x = 0))))) (f := fun (y : Int) => (Option.bind (Option.bind (fGetT numbers (eI y)) asI) fun x_2 => some ((y, x_2)))) (xi_list (ea := eI) (x_callBT (ec := (eL eI)) (f := (fun (p_ : PyData × Unit) => Option.bind (sortedC [eA p_.1]) (cvL asI))) (p := (numbers, ())) (q_extB (ea := eA) (dcL dcI).1) (xa_cv (t' := some (numbers, ())) (xa_cons (o1 := false) (o2 := false) (xo_val (x_var (ea := eA) (v := numbers) rfl)) xa_nil) rfl) okf)) (fun y => xg_nm) (fun y => ⟨rfl, rfl, trivial⟩) (fun y => (xt_test (x_cv (t' := (Option.bind (Option.bind (fGetT numbers (eI y)) asI) fun x => some ((!decide (x = 0))))) (x_bin (ea := eI) (eb := eI) (ec := eB) (f := (fun a_ b_ => some ((!decide (a_ = b_))))) (q_ne eqI) (xo_val (x_cv (t' := (Option.bind (fGetT numbers (eI y)) asI)) (x_cast (t := fGetT numbers (eI y)) dcI.1 (x_cv (t' := fGetT numbers (eI y)) (x_fGet (ea := eI) (d := numbers) rfl (x_var (ea := eI) (v := y) rfl)) (by first | with_reducible rfl | simp -implicitDefEqProofs only [Option.map_eq_bind, Option.bind_assoc, Option.bind_some, Function.comp_def] | rfl))) rfl)) (xo_val (x_c (ea := eI) (v := 0) rfl)) okf) (by first | with_reducible rfl | simp -implicitDefEqProofs only [Option.map_eq_bind, Option.bind_assoc, Option.bind_some, Function.comp_def] | rfl)))) (fun y => (x_cv (t' := (Option.bind (Option.bind (fGetT numbers (eI y)) asI) fun x_2 => some ((y, x_2)))) (x_up (ea := (eTu (fC eI (fC eI f0)))) (eb := (eTu (fC eI (f1 eI)))) (fun x_ => (x_.1, x_.2.1)) (fun _ => rfl) (x_tup (xa_cv (t' := (Option.bind (Option.bind (fGetT numbers (eI y)) asI) fun x_1 => some ((y, x_1, ())))) (xa_cons (o1 := false) (o2 := false) (xo_val (x_var (ea := eI) (v := y) rfl)) (xa_cons (o1 := false) (o2 := false) (xo_val (x_cv (t' := (Option.bind (fGetT numbers (eI y)) asI)) (x_cast (t := fGetT numbers (eI y)) dcI.1 (x_cv (t' := fGetT numbers (eI y)) (x_fGet (ea := eI) (d := numbers) rfl (x_var (ea := eI) (v := y) rfl)) (by first | with_reducible rfl | simp -implicitDefEqProofs only [Option.map_eq_bind, Option.bind_assoc, Option.bind_some, Function.comp_def] | rfl))) rfl)) xa_nil)) (by first | with_reducible rfl | simp -implicitDefEqProofs only [Option.map_eq_bind, Option.bind_assoc, Option.bind_some, Function.comp_def] | rfl)) (fun _ => (by decide : 2 ≤ 1000)))) (by first | with_reducible rfl | simp -implicitDefEqProofs only [Option.map_eq_bind, Option.bind_assoc, Option.bind_some, Function.comp_def] | rfl)))) rfl)) xa_nil) okf) (by first | with_reducible rfl | simp -implicitDefEqProofs only [Option.map_eq_bind, Option.bind_assoc, Option.bind_some, Function.comp_def] | rfl)))))
def l0_added_powers (times : Int) (st : (PyData)) (y : (Int × Int)) : Option (PyData) := Option.bind ((Option.bind (Option.bind (Option.bind (dGet2T .dk st (eI y.1) (eI 0)) asI) fun x => Option.bind (mulT times y.2) fun x_1 => some ((x + x_1))) fun x_2 => dPutT .dk st (eI y.1) (eI x_2))) fun found_1 => some (found_1)
def t_added_powers (one : (List (Int × Int))) (other : (List (Int × Int))) (times : Int) : Option (List (Int × Int)) := Option.bind (dTT ((eT (eTu (fC eI (f1 eI)))) one)) fun found => Option.bind (α := (PyData)) (Option.bind (some other) fun x_ => forP (l0_added_powers times) x_ (found)) fun st_1 => t_told_powers st_1
theorem k_added_powers : FT m_added_powers 3 (fC (eT (eTu (fC eI (f1 eI)))) (fC (eT (eTu (fC eI (f1 eI)))) (fC eI f0))) (eT (eTu (fC eI (f1 eI)))) (fun p_ => t_added_powers p_.1 p_.2.1 p_.2.2.1) :=
  ft_ofK rfl (fun _ => rfl) rfl (by decide) (fun (one, other, times, ()) => by
    unfold t_added_powers
    refine xb_weak (L' := [(some (some ((eT (eTu (fC eI (f1 eI)))) one))), (some (some ((eT (eTu (fC eI (f1 eI)))) other))), (some (some (eI times))), (some none), (some none), (some none)]) ?_ ⟨rfl, rfl, rfl, rfl, rfl, rfl, trivial⟩
    refine xb_asg (ea := eA) ?_ (fun found => xg_nm) fun found => ?_
    · exact (x_dictT (d := (eT (eTu (fC eI (f1 eI)))) one) rfl)
    · refine xb_weak (L' := [(some (some ((eT (eTu (fC eI (f1 eI)))) one))), (some (some ((eT (eTu (fC eI (f1 eI)))) other))), (some (some (eI times))), (some (some (eA found))), (some none), (some none)]) ?_ ⟨rfl, rfl, rfl, rfl, rfl, rfl, trivial⟩
      refine xb_thn (σ := (PyData)) (env := (fun (st_ : (PyData)) => [(some (some ((eT (eTu (fC eI (f1 eI)))) one))), (some (some ((eT (eTu (fC eI (f1 eI)))) other))), (some (some (eI times))), (some (some (eA st_))), none, none])) ?_ fun st_1 => ?_
      · refine xb_for (ea := (eTu (fC eI (f1 eI)))) (env := (fun (st_ : (PyData)) => [(some (some ((eT (eTu (fC eI (f1 eI)))) one))), (some (some ((eT (eTu (fC eI (f1 eI)))) other))), (some (some (eI times))), (some (some (eA st_))), none, none])) (f := (l0_added_powers times)) (s0 := (found)) (L := [(some (some ((eT (eTu (fC eI (f1 eI)))) one))), (some (some ((eT (eTu (fC eI (f1 eI)))) other))), (some (some (eI times))), (some (some (eA found))), (some none), (some none)]) ?_ ⟨rfl, rfl, rfl, rfl, trivial⟩ (fun st y => (xg_tu rfl (xg_cons xg_nm (xg_cons xg_nm xg_nil)))) (fun st y => ?_)
        · exact (xi2 (xi_tup (ea := (eTu (fC eI (f1 eI)))) (x_var (ea := (eT (eTu (fC eI (f1 eI))))) (v := other) rfl)))
        · unfold l0_added_powers
          refine xb_weak (L' := [(some (some ((eT (eTu (fC eI (f1 eI)))) one))), (some (some ((eT (eTu (fC eI (f1 eI)))) other))), (some (some (eI times))), (some (some (eA st))), (some (some (eI y.1))), (some (some (eI y.2)))]) ?_ ⟨rfl, rfl, rfl, rfl, rfl, rfl, trivial⟩
          refine xb_seq_nx ?_
          refine xb_dPut (kd := .dk) (ea := eI) (eb := eI) (d := st) rfl (t := (Option.bind (Option.bind (dGet2T .dk st (eI y.1) (eI 0)) asI) fun x => Option.bind (mulT times y.2) fun x_1 => some ((x + x_1)))) (tk := (some y.1)) ?_ ?_ rfl fun found_1 => ?_
          · exact (x_cv (t' := (Option.bind (Option.bind (dGet2T .dk st (eI y.1) (eI 0)) asI) fun x => Option.bind (mulT times y.2) fun x_1 => some ((x + x_1)))) (x_bin (ea := eI) (eb := eI) (ec := eI) (f := (fun a_ b_ => some ((a_ + b_)))) q_add (xo_val (x_cv (t' := (Option.bind (dGet2T .dk st (eI y.1) (eI 0)) asI)) (x_cast (t := dGet2T .dk st (eI y.1) (eI 0)) dcI.1 (x_cv (t' := dGet2T .dk st (eI y.1) (eI 0)) (x_dGet2 (ea := eI) (eb := eI) (d := st) rfl (x_var (ea := eI) (v := y.1) rfl) (x_c (ea := eI) (v := 0) rfl)) (by first | with_reducible rfl | simp -implicitDefEqProofs only [Option.map_eq_bind, Option.bind_assoc, Option.bind_some, Function.comp_def] | rfl))) rfl)) (xo_val (x_binT (ea := eI) (eb := eI) (ec := eI) (f := (fun a_ b_ => mulT a_ b_)) (a := times) (b := y.2) q_mul (xo_val (x_var (ea := eI) (v := times) rfl)) (xo_val (x_var (ea := eI) (v := y.2) rfl)) okf)) okf) (by first | with_reducible rfl | simp -implicitDefEqProofs only [Option.map_eq_bind, Option.bind_assoc, Option.bind_some, Function.comp_def] | rfl))
          · exact (x_var (ea := eI) (v := y.1) rfl)
          · refine xb_weak (L' := [(some (some ((eT (eTu (fC eI (f1 eI)))) one))), (some (some ((eT (eTu (fC eI (f1 eI)))) other))), (some (some (eI times))), (some (some (eA found_1))), (some (some (eI y.1))), (some (some (eI y.2)))]) ?_ ⟨rfl, rfl, rfl, rfl, rfl, rfl, trivial⟩
            exact (xb_nx (env := (fun (st_ : (PyData)) => [(some (some ((eT (eTu (fC eI (f1 eI)))) one))), (some (some ((eT (eTu (fC eI (f1 eI)))) other))), (some (some (eI times))), (some (some (eA st_))), none, none])) (s := (found_1)) ⟨rfl, rfl, rfl, rfl, trivial⟩)
      · refine xb_weak (L' := [(some (some ((eT (eTu (fC eI (f1 eI)))) one))), (some (some ((eT (eTu (fC eI (f1 eI)))) other))), (some (some (eI times))), (some (some (eA st_1))), none, none]) ?_ ⟨rfl, rfl, rfl, rfl, trivial⟩
        exact (xb_retI (rv_ok rfl) (XP.w (x_callT (f := (fun (p_ : PyData × Unit) => t_told_powers p_.1)) (p := (st_1, ())) k_told_powers (xa_cv (t' := some (st_1, ())) (xa_cons (o1 := true) (o2 := false) (xo_slot (ea := eA) (v := st_1) rfl) xa_nil) rfl) (okkP (immTu (immC immI (imm1 immI))))))))
def l0_multiplied_powers (y : (Int × Int)) (st_1 : (PyData)) (y_1 : (Int × Int)) : Option (PyData) := Option.bind ((Option.bind (Option.bind (Option.bind (dGet2T .dk st_1 (eI (y.1 + y_1.1)) (eI 0)) asI) fun x => Option.bind (mulT y.2 y_1.2) fun x_1 => some ((x + x_1))) fun x_2 => dPutT .dk st_1 (eI (y.1 + y_1.1)) (eI x_2))) fun found_1 => some (found_1)
def l1_multiplied_powers (other : (List (Int × Int))) (st : (PyData)) (y : (Int × Int)) : Option (PyData) := Option.bind (α := (PyData)) (Option.bind (some other) fun x_ => forP (l0_multiplied_powers y) x_ (st)) fun st_2 => some (st_2)
def t_multiplied_powers (one : (List (Int × Int))) (other : (List (Int × Int))) : Option (List (Int × Int)) := Option.bind (some (PyData.dict [])) fun found => Option.bind (α := (PyData)) (Option.bind (some one) fun x_ => forP (l1_multiplied_powers other) x_ (found)) fun st_3 => t_told_powers st_3
theorem k_multiplied_powers : FT m_multiplied_powers 2 (fC (eT (eTu (fC eI (f1 eI)))) (fC (eT (eTu (fC eI (f1 eI)))) f0)) (eT (eTu (fC eI (f1 eI)))) (fun p_ => t_multiplied_powers p_.1 p_.2.1) :=
  ft_ofK rfl (fun _ => rfl) rfl (by decide) (fun (one, other, ()) => by
    unfold t_multiplied_powers
    refine xb_weak (L' := [(some (some ((eT (eTu (fC eI (f1 eI)))) one))), (some (some ((eT (eTu (fC eI (f1 eI)))) other))), (some none), (some none), (some none), (some none), (some none)]) ?_ ⟨rfl, rfl, rfl, rfl, rfl, rfl, rfl, trivial⟩
    refine xb_asg (ea := eA) ?_ (fun found => xg_nm) fun found => ?_
    · exact (x_c (ea := eA) (v := PyData.dict []) rfl)
    · refine xb_weak (L' := [(some (some ((eT (eTu (fC eI (f1 eI)))) one))), (some (some ((eT (eTu (fC eI (f1 eI)))) other))), (some (some (eA found))), (some none), (some none), (some none), (some none)]) ?_ ⟨rfl, rfl, rfl, rfl, rfl, rfl, rfl, trivial⟩
      refine xb_thn (σ := (PyData)) (env := (fun (st_ : (PyData)) => [(some (some ((eT (eTu (fC eI (f1 eI)))) one))), (some (some ((eT (eTu (fC eI (f1 eI)))) other))), (some (some (eA st_))), none, none, none, none])) ?_ fun st_3 => ?_
      · refine xb_for (ea := (eTu (fC eI (f1 eI)))) (env := (fun (st_ : (PyData)) => [(some (some ((eT (eTu (fC eI (f1 eI)))) one))), (some (some ((eT (eTu (fC eI (f1 eI)))) other))), (some (some (eA st_))), none, none, none, none])) (f := (l1_multiplied_powers other)) (s0 := (found)) (L := [(some (some ((eT (eTu (fC eI (f1 eI)))) one))), (some (some ((eT (eTu (fC eI (f1 eI)))) other))), (some (some (eA found))), (some none), (some none), (some none), (some none)]) ?_ ⟨rfl, rfl, rfl, trivial⟩ (fun st y => (xg_tu rfl (xg_cons xg_nm (xg_cons xg_nm xg_nil)))) (fun st y => ?_)
        · exact (xi2 (xi_tup (ea := (eTu (fC eI (f1 eI)))) (x_var (ea := (eT (eTu (fC eI (f1 eI))))) (v := one) rfl)))
        · unfold l1_multiplied_powers
          refine xb_weak (L' := [(some (some ((eT (eTu (fC eI (f1 eI)))) one))), (some (some ((eT (eTu (fC eI (f1 eI)))) other))), (some (some (eA st))), (some (some (eI y.1))), (some (some (eI y.2))), none, none]) ?_ ⟨rfl, rfl, rfl, rfl, rfl, trivial⟩
          refine xb_seq_nx ?_
          refine xb_thn (σ := (PyData)) (env := (fun (st_ : (PyData)) => [(some (some ((eT (eTu (fC eI (f1 eI)))) one))), (some (some ((eT (eTu (fC eI (f1 eI)))) other))), (some (some (eA st_))), (some (some (eI y.1))), (some (some (eI y.2))), none, none])) ?_ fun st_2 => ?_
          · refine xb_for (ea := (eTu (fC eI (f1 eI)))) (env := (fun (st_ : (PyData)) => [(some (some ((eT (eTu (fC eI (f1 eI)))) one))), (some (some ((eT (eTu (fC eI (f1 eI)))) other))), (some (some (eA st_))), (some (some (eI y.1))), (some (some (eI y.2))), none, none])) (f := (l0_multiplied_powers y)) (s0 := (st)) (L := [(some (some ((eT (eTu (fC eI (f1 eI)))) one))), (some (some ((eT (eTu (fC eI (f1 eI)))) other))), (some (some (eA st))), (some (some (eI y.1))), (some (some (eI y.2))), none, none]) ?_ ⟨rfl, rfl, rfl, rfl, rfl, trivial⟩ (fun st_1 y_1 => (xg_tu rfl (xg_cons xg_nm (xg_cons xg_nm xg_nil)))) (fun st_1 y_1 => ?_)
            · exact (xi2 (xi_tup (ea := (eTu (fC eI (f1 eI)))) (x_var (ea := (eT (eTu (fC eI (f1 eI))))) (v := other) rfl)))
            · unfold l0_multiplied_powers
              refine xb_weak (L' := [(some (some ((eT (eTu (fC eI (f1 eI)))) one))), (some (some ((eT (eTu (fC eI (f1 eI)))) other))), (some (some (eA st_1))), (some (some (eI y.1))), (some (some (eI y.2))), (some (some (eI y_1.1))), (some (some (eI y_1.2)))]) ?_ ⟨rfl, rfl, rfl, rfl, rfl, rfl, rfl, trivial⟩
              refine xb_seq_nx ?_
              refine xb_dPut (kd := .dk) (ea := eI) (eb := eI) (d := st_1) rfl (t := (Option.bind (Option.bind (dGet2T .dk st_1 (eI (y.1 + y_1.1)) (eI 0)) asI) fun x => Option.bind (mulT y.2 y_1.2) fun x_1 => some ((x + x_1)))) (tk := (some (y.1 + y_1.1))) ?_ ?_ rfl fun found_1 => ?_
              · exact (x_cv (t' := (Option.bind (Option.bind (dGet2T .dk st_1 (eI (y.1 + y_1.1)) (eI 0)) asI) fun x => Option.bind (mulT y.2 y_1.2) fun x_1 => some ((x + x_1)))) (x_bin (ea := eI) (eb := eI) (ec := eI) (f := (fun a_ b_ => some ((a_ + b_)))) q_add (xo_val (x_cv (t' := (Option.bind (dGet2T .dk st_1 (eI (y.1 + y_1.1)) (eI 0)) asI)) (x_cast (t := dGet2T .dk st_1 (eI (y.1 + y_1.1)) (eI 0)) dcI.1 (x_cv (t' := dGet2T .dk st_1 (eI (y.1 + y_1.1)) (eI 0)) (x_dGet2 (ea := eI) (eb := eI) (d := st_1) rfl (x_cv (t' := some (y.1 + y_1.1)) (x_bin (ea := eI) (eb := eI) (ec := eI) (f := (fun a_ b_ => some ((a_ + b_)))) q_add (xo_val (x_var (ea := eI) (v := y.1) rfl)) (xo_val (x_var (ea := eI) (v := y_1.1) rfl)) okf) rfl) (x_c (ea := eI) (v := 0) rfl)) (by first | with_reducible rfl | simp -implicitDefEqProofs only [Option.map_eq_bind, Option.bind_assoc, Option.bind_some, Function.comp_def] | rfl))) rfl)) (xo_val (x_binT (ea := eI) (eb := eI) (ec := eI) (f := (fun a_ b_ => mulT a_ b_)) (a := y.2) (b := y_1.2) q_mul (xo_val (x_var (ea := eI) (v := y.2) rfl)) (xo_val (x_var (ea := eI) (v := y_1.2) rfl)) okf)) okf) (by first | with_reducible rfl | simp -implicitDefEqProofs only [Option.map_eq_bind, Option.bind_assoc, Option.bind_some, Function.comp_def] | rfl))
              · exact (x_cv (t' := some (y.1 + y_1.1)) (x_bin (ea := eI) (eb := eI) (ec := eI) (f := (fun a_ b_ => some ((a_ + b_)))) q_add (xo_val (x_var (ea := eI) (v := y.1) rfl)) (xo_val (x_var (ea := eI) (v := y_1.1) rfl)) okf) rfl)
              · refine xb_weak (L' := [(some (some ((eT (eTu (fC eI (f1 eI)))) one))), (some (some ((eT (eTu (fC eI (f1 eI)))) other))), (some (some (eA found_1))), (some (some (eI y.1))), (some (some (eI y.2))), (some (some (eI y_1.1))), (some (some (eI y_1.2)))]) ?_ ⟨rfl, rfl, rfl, rfl, rfl, rfl, rfl, trivial⟩
                exact (xb_nx (env := (fun (st_ : (PyData)) => [(some (some ((eT (eTu (fC eI (f1 eI)))) one))), (some (some ((eT (eTu (fC eI (f1 eI)))) other))), (some (some (eA st_))), (some (some (eI y.1))), (some (some (eI y.2))), none, none])) (s := (found_1)) ⟨rfl, rfl, rfl, rfl, rfl, trivial⟩)
          · refine xb_weak (L' := [(some (some ((eT (eTu (fC eI (f1 eI)))) one))), (some (some ((eT (eTu (fC eI (f1 eI)))) other))), (some (some (eA st_2))), (some (some (eI y.1))), (some (some (eI y.2))), none, none]) ?_ ⟨rfl, rfl, rfl, rfl, rfl, trivial⟩
            exact (xb_nx (env := (fun (st_ : (PyData)) => [(some (some ((eT (eTu (fC eI (f1 eI)))) one))), (some (some ((eT (eTu (fC eI (f1 eI)))) other))), (some (some (eA st_))), none, none, none, none])) (s := (st_2)) ⟨rfl, rfl, rfl, trivial⟩)
      · refine xb_weak (L' := [(some (some ((eT (eTu (fC eI (f1 eI)))) one))), (some (some ((eT (eTu (fC eI (f1 eI)))) other))), (some (some (eA st_3))), none, none, none, none]) ?_ ⟨rfl, rfl, rfl, trivial⟩
        exact (xb_retI (rv_ok rfl) (XP.w (x_callT (f := (fun (p_ : PyData × Unit) => t_told_powers p_.1)) (p := (st_3, ())) k_told_powers (xa_cv (t' := some (st_3, ())) (xa_cons (o1 := true) (o2 := false) (xo_slot (ea := eA) (v := st_3) rfl) xa_nil) rfl) (okkP (immTu (immC immI (imm1 immI))))))))
def t_turned_powers (one : (List (Int × Int))) : Option (List (Int × Int)) := (Option.bind (Option.bind (compG (fun (y : (Int × Int)) => (some true)) (fun (y : (Int × Int)) => (some ((-y.1), y.2))) one) fun x => sortT (fun p q : Int × Int => decide (p.1 < q.1 ∨ (p.1 = q.1 ∧ p.2 ≤ q.2))) x) fun x_1 => some (x_1))
theorem k_turned_powers : FT m_turned_powers 1 (fC (eT (eTu (fC eI (f1 eI)))) f0) (eT (eTu (fC eI (f1 eI)))) (fun p_ => t_turned_powers p_.1) :=
  ft_ofK rfl (fun _ => rfl) rfl (by decide) (fun (one, ()) => by
    unfold t_turned_powers
    refine xb_weak (L' := [(some (some ((eT (eTu (fC eI (f1 eI)))) one))), (some none), (some none)]) ?_ ⟨rfl, rfl, rfl, trivial⟩
    exact (xb_retI (rv_ok rfl) (XP.w (x_cv (t' := (Option.bind (Option.bind (compG (fun (y : (Int × Int)) => (some true)) (fun (y : (Int × Int)) => (some ((-y.1), y.2))) one) fun x => sortT (fun p q : Int × Int => decide (p.1 < q.1 ∨ (p.1 = q.1 ∧ p.2 ≤ q.2))) x) fun x_1 => some (x_1))) (x_callB (ec := (eT (eTu (fC eI (f1 eI))))) (f := (fun (p_ : (List (Int × Int)) × Unit) => some (p_.1))) (q_tupL (ea := (eTu (fC eI (f1 eI))))) (xa_cons (o1 := false) (o2 := false) (xo_val (x_cv (t' := (Option.bind (compG (fun (y : (Int × Int)) => (some true)) (fun (y : (Int × Int)) => (some ((-y.1), y.2))) one) fun x => sortT (fun p q : Int × Int => decide (p.1 < q.1 ∨ (p.1 = q.1 ∧ p.2 ≤ q.2))) x)) (x_callB (ec := (eL (eTu (fC eI (f1 eI))))) (f := (fun (p_ : (List (Int × Int)) × Unit) => sortT (fun p q : Int × Int => decide (p.1 < q.1 ∨ (p.1 = q.1 ∧ p.2 ≤ q.2))) p_.1)) (q_sortedCL srtII) (xa_cons (o1 := false) (o2 := false) (xo_val (x_compIT (ea := (eTu (fC eI (f1 eI)))) (eb := (eTu (fC eI (f1 eI)))) (p := fun (y : (Int × Int)) => (some true)) (f := fun (y : (Int × Int)) => (some ((-y.1), y.2))) (xi_tup (ea := (eTu (fC eI (f1 eI)))) (x_var (ea := (eT (eTu (fC eI (f1 eI))))) (v := one) rfl)) (fun y => (xg_tu rfl (xg_cons xg_nm (xg_cons xg_nm xg_nil)))) (fun y => ⟨rfl, rfl, rfl, trivial⟩) (fun y => xt_yes) (fun y => (x_cv (t' := some ((-y.1), y.2)) (x_up (ea := (eTu (fC eI (fC eI f0)))) (eb := (eTu (fC eI (f1 eI)))) (fun x_ => (x_.1, x_.2.1)) (fun _ => rfl) (x_tup (xa_cv (t' := some ((-y.1), y.2, ())) (xa_cons (o1 := false) (o2 := false) (xo_val (x_cv (t' := some (-y.1)) (x_un (ea := eI) (ec := eI) (f := fun a_ => some (-a_)) q_neg (xo_val (x_var (ea := eI) (v := y.1) rfl)) okf) rfl)) (xa_cons (o1 := false) (o2 := false) (xo_val (x_var (ea := eI) (v := y.2) rfl)) xa_nil)) rfl) (fun _ => (by decide : 2 ≤ 1000)))) rfl)))) xa_nil) okf) (by first | with_reducible rfl | simp -implicitDefEqProofs only [Option.map_eq_bind, Option.bind_assoc, Option.bind_some, Function.comp_def] | rfl))) xa_nil) okf) (by first | with_reducible rfl | simp -implicitDefEqProofs only [Option.map_eq_bind, Option.bind_assoc, Option.bind_some, Function.comp_def] | rfl)))))
def l0_loops_taken  (st : ((List (Int × Int)))) (y : Int) : Option ((List (Int × Int))) := Option.bind (t_multiplied_powers st ([((-2), (-1)), ((2), (-1))])) fun found_1 => some (found_1)
def t_loops_taken (times : Int) : Option (List (Int × Int)) := Option.bind (some [(0, 1)]) fun found => Option.bind (α := ((List (Int × Int)))) (Option.bind (rng1T times) fun x_ => forP l0_loops_taken x_ (found)) fun st_1 => (some st_1)
theorem k_loops_taken : FT m_loops_taken 1 (fC eI f0) (eT (eTu (fC eI (f1 eI)))) (fun p_ => t_loops_taken p_.1) :=
  ft_ofK rfl (fun _ => rfl) rfl (by decide) (fun (times, ()) => by
    unfold t_loops_taken
    refine xb_weak (L' := [(some (some (eI times))), (some none), (some none)]) ?_ ⟨rfl, rfl, rfl, trivial⟩
    refine xb_asg (ea := (eT (eTu (fC eI (f1 eI))))) ?_ (fun found => xg_nm) fun found => ?_
    · exact (x_cv (t' := some ([(0, 1)])) (x_up (ea := (eTu (fC (eTu (fC eI (f1 eI))) f0))) (eb := (eT (eTu (fC eI (f1 eI))))) (fun x_ => [x_.1]) (fun _ => rfl) (x_tup (xa_cv (t' := some ((0, 1), ())) (xa_cons (o1 := false) (o2 := false) (xo_val (x_cv (t' := some (0, 1)) (x_up (ea := (eTu (fC eI (fC eI f0)))) (eb := (eTu (fC eI (f1 eI)))) (fun x_ => (x_.1, x_.2.1)) (fun _ => rfl) (x_tup (xa_cv (t' := some (0, 1, ())) (xa_cons (o1 := false) (o2 := false) (xo_val (x_c (ea := eI) (v := 0) rfl)) (xa_cons (o1 := false) (o2 := false) (xo_val (x_c (ea := eI) (v := 1) rfl)) xa_nil)) rfl) (fun _ => (by decide : 2 ≤ 1000)))) rfl)) xa_nil) rfl) (fun _ => (by decide : 1 ≤ 1000)))) rfl)
    · refine xb_weak (L' := [(some (some (eI times))), (some (some ((eT (eTu (fC eI (f1 eI)))) found))), (some none)]) ?_ ⟨rfl, rfl, rfl, trivial⟩
      refine xb_thn (σ := ((List (Int × Int)))) (env := (fun (st_ : ((List (Int × Int)))) => [(some (some (eI times))), (some (some ((eT (eTu (fC eI (f1 eI)))) st_))), none])) ?_ fun st_1 => ?_
      · refine xb_for (ea := eI) (env := (fun (st_ : ((List (Int × Int)))) => [(some (some (eI times))), (some (some ((eT (eTu (fC eI (f1 eI)))) st_))), none])) (f := l0_loops_taken) (s0 := (found)) (L := [(some (some (eI times))), (some (some ((eT (eTu (fC eI (f1 eI)))) found))), (some none)]) ?_ ⟨rfl, rfl, trivial⟩ (fun st y => xg_nm) (fun st y => ?_)
        · exact (xi2 (xi_rng1T (xa_cv (t' := some (times, ())) (xa_cons (o1 := false) (o2 := false) (xo_val (x_var (ea := eI) (v := times) rfl)) xa_nil) rfl)))
        · unfold l0_loops_taken
          refine xb_weak (L' := [(some (some (eI times))), (some (some ((eT (eTu (fC eI (f1 eI)))) st))), (some (some (eI y)))]) ?_ ⟨rfl, rfl, rfl, trivial⟩
          refine xb_seq_nx ?_
          refine xb_asg (ea := (eT (eTu (fC eI (f1 eI))))) ?_ (fun found_1 => xg_nm) fun found_1 => ?_
          · exact (x_callT (f := (fun (p_ : (List (Int × Int)) × (List (Int × Int)) × Unit) => t_multiplied_powers p_.1 p_.2.1)) (p := (st, [((-2), (-1)), ((2), (-1))], ())) k_multiplied_powers (xa_cv (t' := some (st, ([((-2), (-1)), ((2), (-1))]), ())) (xa_cons (o1 := false) (o2 := false) (xo_val (x_var (ea := (eT (eTu (fC eI (f1 eI))))) (v := st) rfl)) (xa_cons (o1 := false) (o2 := false) (xo_val (x_c (ea := (eT (eTu (fC eI (f1 eI))))) (v := [((-2), (-1)), ((2), (-1))]) rfl)) xa_nil)) rfl) okk)
          · refine xb_weak (L' := [(some (some (eI times))), (some (some ((eT (eTu (fC eI (f1 eI)))) found_1))), (some (some (eI y)))]) ?_ ⟨rfl, rfl, rfl, trivial⟩
            exact (xb_nx (env := (fun (st_ : ((List (Int × Int)))) => [(some (some (eI times))), (some (some ((eT (eTu (fC eI (f1 eI)))) st_))), none])) (s := (found_1)) ⟨rfl, rfl, trivial⟩)
      · refine xb_weak (L' := [(some (some (eI times))), (some (some ((eT (eTu (fC eI (f1 eI)))) st_1))), none]) ?_ ⟨rfl, rfl, trivial⟩
        exact (xb_retI (rv_ok rfl) (XP.w (x_var (ea := (eT (eTu (fC eI (f1 eI))))) (v := st_1) rfl))))
def t_sum_at_one (one : (List (Int × Int))) : Option Int := (Option.bind (compG (fun (y : (Int × Int)) => (some true)) (fun (y : (Int × Int)) => (some y.2)) one) fun x => some ((List.sum x)))
theorem k_sum_at_one : FT m_sum_at_one 1 (fC (eT (eTu (fC eI (f1 eI)))) f0) eI (fun p_ => t_sum_at_one p_.1) :=
  ft_ofK rfl (fun _ => rfl) rfl (by decide) (fun (one, ()) => by
    unfold t_sum_at_one
    refine xb_weak (L' := [(some (some ((eT (eTu (fC eI (f1 eI)))) one))), (some none), (some none)]) ?_ ⟨rfl, rfl, rfl, trivial⟩
    exact (xb_retI (rv_ok rfl) (XP.w (x_cv (t' := (Option.bind (compG (fun (y : (Int × Int)) => (some true)) (fun (y : (Int × Int)) => (some y.2)) one) fun x => some ((List.sum x)))) (x_callB (ec := eI) (f := (fun (p_ : (List Int) × Unit) => some ((List.sum p_.1)))) q_sum (xa_cons (o1 := false) (o2 := false) (xo_val (x_compIT (ea := (eTu (fC eI (f1 eI)))) (eb := eI) (p := fun (y : (Int × Int)) => (some true)) (f := fun (y : (Int × Int)) => (some y.2)) (xi_tup (ea := (eTu (fC eI (f1 eI)))) (x_var (ea := (eT (eTu (fC eI (f1 eI))))) (v := one) rfl)) (fun y => (xg_tu rfl (xg_cons xg_nm (xg_cons xg_nm xg_nil)))) (fun y => ⟨rfl, rfl, rfl, trivial⟩) (fun y => xt_yes) (fun y => (x_var (ea := eI) (v := y.2) rfl)))) xa_nil) okf) (by first | with_reducible rfl | simp -implicitDefEqProofs only [Option.map_eq_bind, Option.bind_assoc, Option.bind_some, Function.comp_def] | rfl)))))
def t_law_told (numbers : PyData) : Option (List (Int × Int)) := (Option.bind (Option.bind (Option.bind (keysT asI numbers) fun x_3 => compG (fun (y : Int) => (Option.bind (Option.bind (fGetT numbers (eI y)) asI) fun x => some ((!decide (x = 0))))) (fun (y : Int) => (Option.bind (Option.bind (fGetT numbers (eI y)) asI) fun x_2 => some ((y, x_2)))) x_3) fun x_4 => sortT (fun p q : Int × Int => decide (p.1 < q.1 ∨ (p.1 = q.1 ∧ p.2 ≤ q.2))) x_4) fun x_5 => some (x_5))
theorem k__law_told : FT m_law_told 1 (fC eA f0) (eT (eTu (fC eI (f1 eI)))) (fun p_ => t_law_told p_.1) :=
  ft_ofK rfl (fun _ => rfl) rfl (by decide) (fun (numbers, ()) => by
    unfold t_law_told
    refine xb_weak (L' := [(some (some (eA numbers))), (some none)]) ?_ ⟨rfl, rfl, trivial⟩
    exact (xb_retI (rv_ok rfl) (XP.w (x_cv (t' := (Option.bind (Option.bind (Option.bind (keysT asI numbers) fun x_3 => compG (fun (y : Int) => (Option.bind (Option.bind (fGetT numbers (eI y)) asI) fun x => some ((!decide (x = 0))))) (fun (y : Int) => (Option.bind (Option.bind (fGetT numbers (eI y)) asI) fun x_2 => some ((y, x_2)))) x_3) fun x_4 => sortT (fun p q : Int × Int => decide (p.1 < q.1 ∨ (p.1 = q.1 ∧ p.2 ≤ q.2))) x_4) fun x_5 => some (x_5))) (x_callB (ec := (eT (eTu (fC eI (f1 eI))))) (f := (fun (p_ : (List (Int × Int)) × Unit) => some (p_.1))) (q_tupP (ea := (eTu (fC eI (f1 eI)))) (kt_of fun _ => rfl)) (xa_cons (o1 := false) (o2 := false) (xo_val (x_cv (t' := (Option.bind (Option.bind (keysT asI numbers) fun x_3 => compG (fun (y : Int) => (Option.bind (Option.bind (fGetT numbers (eI y)) asI) fun x => some ((!decide (x = 0))))) (fun (y : Int) => (Option.bind (Option.bind (fGetT numbers (eI y)) asI) fun x_2 => some ((y, x_2)))) x_3) fun x_4 => sortT (fun p q : Int × Int => decide (p.1 < q.1 ∨ (p.1 = q.1 ∧ p.2 ≤ q.2))) x_4)) (x_callB (ec := (eL (eTu (fC eI (f1 eI))))) (f := (fun (p_ : (List (Int × Int)) × Unit) => sortT (fun p q : Int × Int => decide (p.1 < q.1 ∨ (p.1 = q.1 ∧ p.2 ≤ q.2))) p_.1)) (q_sortedCL srtII) (xa_cons (o1 := false) (o2 := false) (xo_val (x_cv (t' := (Option.bind (keysT asI numbers) fun x_3 => compG (fun (y : Int) => (Option.bind (Option.bind (fGetT numbers (eI y)) asI) fun x => some ((!decide (x = 0))))) (fun (y : Int) => (Option.bind (Option.bind (fGetT numbers (eI y)) asI) fun x_2 => some ((y, x_2)))) x_3)) (x_compI (ea := eI) (eb := (eTu (fC eI (f1 eI)))) (p := fun (y : Int) => (Option.bind (Option.bind (fGetT numbers (eI y)) asI) fun x => some ((!decide (x = 0))))) (f := fun (y : Int) => (Option.bind (Option.bind (fGetT numbers (eI y)) asI) fun x_2 => some ((y, x_2)))) (xi_keys (ea := eI) (d := numbers) dcI rfl) (fun y => xg_nm) (fun y => ⟨rfl, rfl, trivial⟩) (fun y => (xt_test (x_cv (t' := (Option.bind (Option.bind (fGetT numbers (eI y)) asI) fun x => some ((!decide (x = 0))))) (x_bin (ea := eI) (eb := eI) (ec := eB) (f := (fun a_ b_ => some ((!decide (a_ = b_))))) (q_ne eqI) (xo_val (x_cv (t' := (Option.bind (fGetT numbers (eI y)) asI)) (x_cast (t := fGetT numbers (eI y)) dcI.1 (x_cv (t' := fGetT numbers (eI y)) (x_fGet (ea := eI) (d := numbers) rfl (x_var (ea := eI) (v := y) rfl)) (by first | with_reducible rfl | simp -implicitDefEqProofs only [Option.map_eq_bind, Option.bind_assoc, Option.bind_some, Function.comp_def] | rfl))) rfl)) (xo_val (x_c (ea := eI) (v := 0) rfl)) okf) (by first | with_reducible rfl | simp -implicitDefEqProofs only [Option.map_eq_bind, Option.bind_assoc, Option.bind_some, Function.comp_def] | rfl)))) (fun y => (x_cv (t' := (Option.bind (Option.bind (fGetT numbers (eI y)) asI) fun x_2 => some ((y, x_2)))) (x_up (ea := (eTu (fC eI (fC eI f0)))) (eb := (eTu (fC eI (f1 eI)))) (fun x_ => (x_.1, x_.2.1)) (fun _ => rfl) (x_tup (xa_cv (t' := (Option.bind (Option.bind (fGetT numbers (eI y)) asI) fun x_1 => some ((y, x_1, ())))) (xa_cons (o1 := false) (o2 := false) (xo_val (x_var (ea := eI) (v := y) rfl)) (xa_cons (o1 := false) (o2 := false) (xo_val (x_cv (t' := (Option.bind (fGetT numbers (eI y)) asI)) (x_cast (t := fGetT numbers (eI y)) dcI.1 (x_cv (t' := fGetT numbers (eI y)) (x_fGet (ea := eI) (d := numbers) rfl (x_var (ea := eI) (v := y) rfl)) (by first | with_reducible rfl | simp -implicitDefEqProofs only [Option.map_eq_bind, Option.bind_assoc, Option.bind_some, Function.comp_def] | rfl))) rfl)) xa_nil)) (by first | with_reducible rfl | simp -implicitDefEqProofs only [Option.map_eq_bind, Option.bind_assoc, Option.bind_some, Function.comp_def] | rfl)) (fun _ => (by decide : 2 ≤ 1000)))) (by first | with_reducible rfl | simp -implicitDefEqProofs only [Option.map_eq_bind, Option.bind_assoc, Option.bind_some, Function.comp_def] | rfl)))) rfl)) xa_nil) okf) (by first | with_reducible rfl | simp -implicitDefEqProofs only [Option.map_eq_bind, Option.bind_assoc, Option.bind_some, Function.comp_def] | rfl))) xa_nil) okf) (by first | with_reducible rfl | simp -implicitDefEqProofs only [Option.map_eq_bind, Option.bind_assoc, Option.bind_some, Function.comp_def] | rfl)))))
def l0_law_added (times : Int) (st : (PyData)) (y : (Int × Int)) : Option (PyData) := Option.bind ((Option.bind (Option.bind (Option.bind (dGet2T .dk st (eI y.1) (eI 0)) asI) fun x => Option.bind (mulT times y.2) fun x_1 => some ((x + x_1))) fun x_2 => dPutT .dk st (eI y.1) (eI x_2))) fun found_1 => some (found_1)
def t_law_added (one : (List (Int × Int))) (other : (List (Int × Int))) (times : Int) : Option (List (Int × Int)) := Option.bind (dTT ((eT (eTu (fC eI (f1 eI)))) one)) fun found => Option.bind (α := (PyData)) (Option.bind (some other) fun x_ => forP (l0_law_added times) x_ (found)) fun st_1 => t_law_told st_1
theorem k__law_added : FT m_law_added 3 (fC (eT (eTu (fC eI (f1 eI)))) (fC (eT (eTu (fC eI (f1 eI)))) (fC eI f0))) (eT (eTu (fC eI (f1 eI)))) (fun p_ => t_law_added p_.1 p_.2.1 p_.2.2.1) :=
  ft_ofK rfl (fun _ => rfl) rfl (by decide) (fun (one, other, times, ()) => by
    unfold t_law_added
    refine xb_weak (L' := [(some (some ((eT (eTu (fC eI (f1 eI)))) one))), (some (some ((eT (eTu (fC eI (f1 eI)))) other))), (some (some (eI times))), (some none), (some none), (some none)]) ?_ ⟨rfl, rfl, rfl, rfl, rfl, rfl, trivial⟩
    refine xb_asg (ea := eA) ?_ (fun found => xg_nm) fun found => ?_
    · exact (x_dictT (d := (eT (eTu (fC eI (f1 eI)))) one) rfl)
    · refine xb_weak (L' := [(some (some ((eT (eTu (fC eI (f1 eI)))) one))), (some (some ((eT (eTu (fC eI (f1 eI)))) other))), (some (some (eI times))), (some (some (eA found))), (some none), (some none)]) ?_ ⟨rfl, rfl, rfl, rfl, rfl, rfl, trivial⟩
      refine xb_thn (σ := (PyData)) (env := (fun (st_ : (PyData)) => [(some (some ((eT (eTu (fC eI (f1 eI)))) one))), (some (some ((eT (eTu (fC eI (f1 eI)))) other))), (some (some (eI times))), (some (some (eA st_))), none, none])) ?_ fun st_1 => ?_
      · refine xb_for (ea := (eTu (fC eI (f1 eI)))) (env := (fun (st_ : (PyData)) => [(some (some ((eT (eTu (fC eI (f1 eI)))) one))), (some (some ((eT (eTu (fC eI (f1 eI)))) other))), (some (some (eI times))), (some (some (eA st_))), none, none])) (f := (l0_law_added times)) (s0 := (found)) (L := [(some (some ((eT (eTu (fC eI (f1 eI)))) one))), (some (some ((eT (eTu (fC eI (f1 eI)))) other))), (some (some (eI times))), (some (some (eA found))), (some none), (some none)]) ?_ ⟨rfl, rfl, rfl, rfl, trivial⟩ (fun st y => (xg_tu rfl (xg_cons xg_nm (xg_cons xg_nm xg_nil)))) (fun st y => ?_)
        · exact (xi2 (xi_tup (ea := (eTu (fC eI (f1 eI)))) (x_var (ea := (eT (eTu (fC eI (f1 eI))))) (v := other) rfl)))
        · unfold l0_law_added
          refine xb_weak (L' := [(some (some ((eT (eTu (fC eI (f1 eI)))) one))), (some (some ((eT (eTu (fC eI (f1 eI)))) other))), (some (some (eI times))), (some (some (eA st))), (some (some (eI y.1))), (some (some (eI y.2)))]) ?_ ⟨rfl, rfl, rfl, rfl, rfl, rfl, trivial⟩
          refine xb_seq_nx ?_
          refine xb_dPut (kd := .dk) (ea := eI) (eb := eI) (d := st) rfl (t := (Option.bind (Option.bind (dGet2T .dk st (eI y.1) (eI 0)) asI) fun x => Option.bind (mulT times y.2) fun x_1 => some ((x + x_1)))) (tk := (some y.1)) ?_ ?_ rfl fun found_1 => ?_
          · exact (x_cv (t' := (Option.bind (Option.bind (dGet2T .dk st (eI y.1) (eI 0)) asI) fun x => Option.bind (mulT times y.2) fun x_1 => some ((x + x_1)))) (x_bin (ea := eI) (eb := eI) (ec := eI) (f := (fun a_ b_ => some ((a_ + b_)))) q_add (xo_val (x_cv (t' := (Option.bind (dGet2T .dk st (eI y.1) (eI 0)) asI)) (x_cast (t := dGet2T .dk st (eI y.1) (eI 0)) dcI.1 (x_cv (t' := dGet2T .dk st (eI y.1) (eI 0)) (x_dGet2 (ea := eI) (eb := eI) (d := st) rfl (x_var (ea := eI) (v := y.1) rfl) (x_c (ea := eI) (v := 0) rfl)) (by first | with_reducible rfl | simp -implicitDefEqProofs only [Option.map_eq_bind, Option.bind_assoc, Option.bind_some, Function.comp_def] | rfl))) rfl)) (xo_val (x_binT (ea := eI) (eb := eI) (ec := eI) (f := (fun a_ b_ => mulT a_ b_)) (a := times) (b := y.2) q_mul (xo_val (x_var (ea := eI) (v := times) rfl)) (xo_val (x_var (ea := eI) (v := y.2) rfl)) okf)) okf) (by first | with_reducible rfl | simp -implicitDefEqProofs only [Option.map_eq_bind, Option.bind_assoc, Option.bind_some, Function.comp_def] | rfl))
          · exact (x_var (ea := eI) (v := y.1) rfl)
          · refine xb_weak (L' := [(some (some ((eT (eTu (fC eI (f1 eI)))) one))), (some (some ((eT (eTu (fC eI (f1 eI)))) other))), (some (some (eI times))), (some (some (eA found_1))), (some (some (eI y.1))), (some (some (eI y.2)))]) ?_ ⟨rfl, rfl, rfl, rfl, rfl, rfl, trivial⟩
            exact (xb_nx (env := (fun (st_ : (PyData)) => [(some (some ((eT (eTu (fC eI (f1 eI)))) one))), (some (some ((eT (eTu (fC eI (f1 eI)))) other))), (some (some (eI times))), (some (some (eA st_))), none, none])) (s := (found_1)) ⟨rfl, rfl, rfl, rfl, trivial⟩)
      · refine xb_weak (L' := [(some (some ((eT (eTu (fC eI (f1 eI)))) one))), (some (some ((eT (eTu (fC eI (f1 eI)))) other))), (some (some (eI times))), (some (some (eA st_1))), none, none]) ?_ ⟨rfl, rfl, rfl, rfl, trivial⟩
        exact (xb_retI (rv_ok rfl) (XP.w (x_callT (f := (fun (p_ : PyData × Unit) => t_law_told p_.1)) (p := (st_1, ())) k__law_told (xa_cv (t' := some (st_1, ())) (xa_cons (o1 := true) (o2 := false) (xo_slot (ea := eA) (v := st_1) rfl) xa_nil) rfl) (okkP (immTu (immC immI (imm1 immI))))))))
def l0_law_times (y : (Int × Int)) (st_1 : (PyData)) (y_1 : (Int × Int)) : Option (PyData) := Option.bind ((Option.bind (Option.bind (Option.bind (dGet2T .dk st_1 (eI (y.1 + y_1.1)) (eI 0)) asI) fun x => Option.bind (mulT y.2 y_1.2) fun x_1 => some ((x + x_1))) fun x_2 => dPutT .dk st_1 (eI (y.1 + y_1.1)) (eI x_2))) fun found_1 => some (found_1)
def l1_law_times (other : (List (Int × Int))) (st : (PyData)) (y : (Int × Int)) : Option (PyData) := Option.bind (α := (PyData)) (Option.bind (some other) fun x_ => forP (l0_law_times y) x_ (st)) fun st_2 => some (st_2)
def t_law_times (one : (List (Int × Int))) (other : (List (Int × Int))) : Option (List (Int × Int)) := Option.bind (some (PyData.dict [])) fun found => Option.bind (α := (PyData)) (Option.bind (some one) fun x_ => forP (l1_law_times other) x_ (found)) fun st_3 => t_law_told st_3
theorem k__law_times : FT m_law_times 2 (fC (eT (eTu (fC eI (f1 eI)))) (fC (eT (eTu (fC eI (f1 eI)))) f0)) (eT (eTu (fC eI (f1 eI)))) (fun p_ => t_law_times p_.1 p_.2.1) :=
  ft_ofK rfl (fun _ => rfl) rfl (by decide) (fun (one, other, ()) => by
    unfold t_law_times
    refine xb_weak (L' := [(some (some ((eT (eTu (fC eI (f1 eI)))) one))), (some (some ((eT (eTu (fC eI (f1 eI)))) other))), (some none), (some none), (some none), (some none), (some none)]) ?_ ⟨rfl, rfl, rfl, rfl, rfl, rfl, rfl, trivial⟩
    refine xb_asg (ea := eA) ?_ (fun found => xg_nm) fun found => ?_
    · exact (x_c (ea := eA) (v := PyData.dict []) rfl)
    · refine xb_weak (L' := [(some (some ((eT (eTu (fC eI (f1 eI)))) one))), (some (some ((eT (eTu (fC eI (f1 eI)))) other))), (some (some (eA found))), (some none), (some none), (some none), (some none)]) ?_ ⟨rfl, rfl, rfl, rfl, rfl, rfl, rfl, trivial⟩
      refine xb_thn (σ := (PyData)) (env := (fun (st_ : (PyData)) => [(some (some ((eT (eTu (fC eI (f1 eI)))) one))), (some (some ((eT (eTu (fC eI (f1 eI)))) other))), (some (some (eA st_))), none, none, none, none])) ?_ fun st_3 => ?_
      · refine xb_for (ea := (eTu (fC eI (f1 eI)))) (env := (fun (st_ : (PyData)) => [(some (some ((eT (eTu (fC eI (f1 eI)))) one))), (some (some ((eT (eTu (fC eI (f1 eI)))) other))), (some (some (eA st_))), none, none, none, none])) (f := (l1_law_times other)) (s0 := (found)) (L := [(some (some ((eT (eTu (fC eI (f1 eI)))) one))), (some (some ((eT (eTu (fC eI (f1 eI)))) other))), (some (some (eA found))), (some none), (some none), (some none), (some none)]) ?_ ⟨rfl, rfl, rfl, trivial⟩ (fun st y => (xg_tu rfl (xg_cons xg_nm (xg_cons xg_nm xg_nil)))) (fun st y => ?_)
        · exact (xi2 (xi_tup (ea := (eTu (fC eI (f1 eI)))) (x_var (ea := (eT (eTu (fC eI (f1 eI))))) (v := one) rfl)))
        · unfold l1_law_times
          refine xb_weak (L' := [(some (some ((eT (eTu (fC eI (f1 eI)))) one))), (some (some ((eT (eTu (fC eI (f1 eI)))) other))), (some (some (eA st))), (some (some (eI y.1))), (some (some (eI y.2))), none, none]) ?_ ⟨rfl, rfl, rfl, rfl, rfl, trivial⟩
          refine xb_seq_nx ?_
          refine xb_thn (σ := (PyData)) (env := (fun (st_ : (PyData)) => [(some (some ((eT (eTu (fC eI (f1 eI)))) one))), (some (some ((eT (eTu (fC eI (f1 eI)))) other))), (some (some (eA st_))), (some (some (eI y.1))), (some (some (eI y.2))), none, none])) ?_ fun st_2 => ?_
          · refine xb_for (ea := (eTu (fC eI (f1 eI)))) (env := (fun (st_ : (PyData)) => [(some (some ((eT (eTu (fC eI (f1 eI)))) one))), (some (some ((eT (eTu (fC eI (f1 eI)))) other))), (some (some (eA st_))), (some (some (eI y.1))), (some (some (eI y.2))), none, none])) (f := (l0_law_times y)) (s0 := (st)) (L := [(some (some ((eT (eTu (fC eI (f1 eI)))) one))), (some (some ((eT (eTu (fC eI (f1 eI)))) other))), (some (some (eA st))), (some (some (eI y.1))), (some (some (eI y.2))), none, none]) ?_ ⟨rfl, rfl, rfl, rfl, rfl, trivial⟩ (fun st_1 y_1 => (xg_tu rfl (xg_cons xg_nm (xg_cons xg_nm xg_nil)))) (fun st_1 y_1 => ?_)
            · exact (xi2 (xi_tup (ea := (eTu (fC eI (f1 eI)))) (x_var (ea := (eT (eTu (fC eI (f1 eI))))) (v := other) rfl)))
            · unfold l0_law_times
              refine xb_weak (L' := [(some (some ((eT (eTu (fC eI (f1 eI)))) one))), (some (some ((eT (eTu (fC eI (f1 eI)))) other))), (some (some (eA st_1))), (some (some (eI y.1))), (some (some (eI y.2))), (some (some (eI y_1.1))), (some (some (eI y_1.2)))]) ?_ ⟨rfl, rfl, rfl, rfl, rfl, rfl, rfl, trivial⟩
              refine xb_seq_nx ?_
              refine xb_dPut (kd := .dk) (ea := eI) (eb := eI) (d := st_1) rfl (t := (Option.bind (Option.bind (dGet2T .dk st_1 (eI (y.1 + y_1.1)) (eI 0)) asI) fun x => Option.bind (mulT y.2 y_1.2) fun x_1 => some ((x + x_1)))) (tk := (some (y.1 + y_1.1))) ?_ ?_ rfl fun found_1 => ?_
              · exact (x_cv (t' := (Option.bind (Option.bind (dGet2T .dk st_1 (eI (y.1 + y_1.1)) (eI 0)) asI) fun x => Option.bind (mulT y.2 y_1.2) fun x_1 => some ((x + x_1)))) (x_bin (ea := eI) (eb := eI) (ec := eI) (f := (fun a_ b_ => some ((a_ + b_)))) q_add (xo_val (x_cv (t' := (Option.bind (dGet2T .dk st_1 (eI (y.1 + y_1.1)) (eI 0)) asI)) (x_cast (t := dGet2T .dk st_1 (eI (y.1 + y_1.1)) (eI 0)) dcI.1 (x_cv (t' := dGet2T .dk st_1 (eI (y.1 + y_1.1)) (eI 0)) (x_dGet2 (ea := eI) (eb := eI) (d := st_1) rfl (x_cv (t' := some (y.1 + y_1.1)) (x_bin (ea := eI) (eb := eI) (ec := eI) (f := (fun a_ b_ => some ((a_ + b_)))) q_add (xo_val (x_var (ea := eI) (v := y.1) rfl)) (xo_val (x_var (ea := eI) (v := y_1.1) rfl)) okf) rfl) (x_c (ea := eI) (v := 0) rfl)) (by first | with_reducible rfl | simp -implicitDefEqProofs only [Option.map_eq_bind, Option.bind_assoc, Option.bind_some, Function.comp_def] | rfl))) rfl)) (xo_val (x_binT (ea := eI) (eb := eI) (ec := eI) (f := (fun a_ b_ => mulT a_ b_)) (a := y.2) (b := y_1.2) q_mul (xo_val (x_var (ea := eI) (v := y.2) rfl)) (xo_val (x_var (ea := eI) (v := y_1.2) rfl)) okf)) okf) (by first | with_reducible rfl | simp -implicitDefEqProofs only [Option.map_eq_bind, Option.bind_assoc, Option.bind_some, Function.comp_def] | rfl))
              · exact (x_cv (t' := some (y.1 + y_1.1)) (x_bin (ea := eI) (eb := eI) (ec := eI) (f := (fun a_ b_ => some ((a_ + b_)))) q_add (xo_val (x_var (ea := eI) (v := y.1) rfl)) (xo_val (x_var (ea := eI) (v := y_1.1) rfl)) okf) rfl)
              · refine xb_weak (L' := [(some (some ((eT (eTu (fC eI (f1 eI)))) one))), (some (some ((eT (eTu (fC eI (f1 eI)))) other))), (some (some (eA found_1))), (some (some (eI y.1))), (some (some (eI y.2))), (some (some (eI y_1.1))), (some (some (eI y_1.2)))]) ?_ ⟨rfl, rfl, rfl, rfl, rfl, rfl, rfl, trivial⟩
                exact (xb_nx (env := (fun (st_ : (PyData)) => [(some (some ((eT (eTu (fC eI (f1 eI)))) one))), (some (some ((eT (eTu (fC eI (f1 eI)))) other))), (some (some (eA st_))), (some (some (eI y.1))), (some (some (eI y.2))), none, none])) (s := (found_1)) ⟨rfl, rfl, rfl, rfl, rfl, trivial⟩)
          · refine xb_weak (L' := [(some (some ((eT (eTu (fC eI (f1 eI)))) one))), (some (some ((eT (eTu (fC eI (f1 eI)))) other))), (some (some (eA st_2))), (some (some (eI y.1))), (some (some (eI y.2))), none, none]) ?_ ⟨rfl, rfl, rfl, rfl, rfl, trivial⟩
            exact (xb_nx (env := (fun (st_ : (PyData)) => [(some (some ((eT (eTu (fC eI (f1 eI)))) one))), (some (some ((eT (eTu (fC eI (f1 eI)))) other))), (some (some (eA st_))), none, none, none, none])) (s := (st_2)) ⟨rfl, rfl, rfl, trivial⟩)
      · refine xb_weak (L' := [(some (some ((eT (eTu (fC eI (f1 eI)))) one))), (some (some ((eT (eTu (fC eI (f1 eI)))) other))), (some (some (eA st_3))), none, none, none, none]) ?_ ⟨rfl, rfl, rfl, trivial⟩
        exact (xb_retI (rv_ok rfl) (XP.w (x_callT (f := (fun (p_ : PyData × Unit) => t_law_told p_.1)) (p := (st_3, ())) k__law_told (xa_cv (t' := some (st_3, ())) (xa_cons (o1 := true) (o2 := false) (xo_slot (ea := eA) (v := st_3) rfl) xa_nil) rfl) (okkP (immTu (immC immI (imm1 immI))))))))
def l0_law_loops  (st : ((List (Int × Int)))) (y : Int) : Option ((List (Int × Int))) := Option.bind (t_law_times st ([((-2), (-1)), (2, (-1))])) fun found_1 => some (found_1)
def t_law_loops (many : Int) : Option (List (Int × Int)) := Option.bind (some [(0, 1)]) fun found => Option.bind (α := ((List (Int × Int)))) (Option.bind (rng1T many) fun x_ => forP l0_law_loops x_ (found)) fun st_1 => (some st_1)
theorem k__law_loops : FT m_law_loops 1 (fC eI f0) (eT (eTu (fC eI (f1 eI)))) (fun p_ => t_law_loops p_.1) :=
  ft_ofK rfl (fun _ => rfl) rfl (by decide) (fun (many, ()) => by
    unfold t_law_loops
    refine xb_weak (L' := [(some (some (eI many))), (some none), (some none)]) ?_ ⟨rfl, rfl, rfl, trivial⟩
    refine xb_asg (ea := (eT (eTu (fC eI (f1 eI))))) ?_ (fun found => xg_nm) fun found => ?_
    · exact (x_cv (t' := some ([(0, 1)])) (x_up (ea := (eTu (fC (eTu (fC eI (f1 eI))) f0))) (eb := (eT (eTu (fC eI (f1 eI))))) (fun x_ => [x_.1]) (fun _ => rfl) (x_tup (xa_cv (t' := some ((0, 1), ())) (xa_cons (o1 := false) (o2 := false) (xo_val (x_cv (t' := some (0, 1)) (x_up (ea := (eTu (fC eI (fC eI f0)))) (eb := (eTu (fC eI (f1 eI)))) (fun x_ => (x_.1, x_.2.1)) (fun _ => rfl) (x_tup (xa_cv (t' := some (0, 1, ())) (xa_cons (o1 := false) (o2 := false) (xo_val (x_c (ea := eI) (v := 0) rfl)) (xa_cons (o1 := false) (o2 := false) (xo_val (x_c (ea := eI) (v := 1) rfl)) xa_nil)) rfl) (fun _ => (by decide : 2 ≤ 1000)))) rfl)) xa_nil) rfl) (fun _ => (by decide : 1 ≤ 1000)))) rfl)
    · refine xb_weak (L' := [(some (some (eI many))), (some (some ((eT (eTu (fC eI (f1 eI)))) found))), (some none)]) ?_ ⟨rfl, rfl, rfl, trivial⟩
      refine xb_thn (σ := ((List (Int × Int)))) (env := (fun (st_ : ((List (Int × Int)))) => [(some (some (eI many))), (some (some ((eT (eTu (fC eI (f1 eI)))) st_))), none])) ?_ fun st_1 => ?_
      · refine xb_for (ea := eI) (env := (fun (st_ : ((List (Int × Int)))) => [(some (some (eI many))), (some (some ((eT (eTu (fC eI (f1 eI)))) st_))), none])) (f := l0_law_loops) (s0 := (found)) (L := [(some (some (eI many))), (some (some ((eT (eTu (fC eI (f1 eI)))) found))), (some none)]) ?_ ⟨rfl, rfl, trivial⟩ (fun st y => xg_nm) (fun st y => ?_)
        · exact (xi2 (xi_rng1T (xa_cv (t' := some (many, ())) (xa_cons (o1 := false) (o2 := false) (xo_val (x_var (ea := eI) (v := many) rfl)) xa_nil) rfl)))
        · unfold l0_law_loops
          refine xb_weak (L' := [(some (some (eI many))), (some (some ((eT (eTu (fC eI (f1 eI)))) st))), (some (some (eI y)))]) ?_ ⟨rfl, rfl, rfl, trivial⟩
          refine xb_seq_nx ?_
          refine xb_asg (ea := (eT (eTu (fC eI (f1 eI))))) ?_ (fun found_1 => xg_nm) fun found_1 => ?_
          · exact (x_callT (f := (fun (p_ : (List (Int × Int)) × (List (Int × Int)) × Unit) => t_law_times p_.1 p_.2.1)) (p := (st, [((-2), (-1)), (2, (-1))], ())) k__law_times (xa_cv (t' := some (st, ([((-2), (-1)), (2, (-1))]), ())) (xa_cons (o1 := false) (o2 := false) (xo_val (x_var (ea := (eT (eTu (fC eI (f1 eI))))) (v := st) rfl)) (xa_cons (o1 := false) (o2 := false) (xo_val (x_cv (t' := some ([((-2), (-1)), (2, (-1))])) (x_up (ea := (eTu (fC (eTu (fC eI (f1 eI))) (fC (eTu (fC eI (f1 eI))) f0)))) (eb := (eT (eTu (fC eI (f1 eI))))) (fun x_ => [x_.1, x_.2.1]) (fun _ => rfl) (x_tup (xa_cv (t' := some (((-2), (-1)), (2, (-1)), ())) (xa_cons (o1 := false) (o2 := false) (xo_val (x_cv (t' := some ((-2), (-1))) (x_up (ea := (eTu (fC eI (fC eI f0)))) (eb := (eTu (fC eI (f1 eI)))) (fun x_ => (x_.1, x_.2.1)) (fun _ => rfl) (x_tup (xa_cv (t' := some ((-2), (-1), ())) (xa_cons (o1 := false) (o2 := false) (xo_val (x_cv (t' := some (-2)) (x_un (ea := eI) (ec := eI) (f := fun a_ => some (-a_)) q_neg (xo_val (x_c (ea := eI) (v := 2) rfl)) okf) rfl)) (xa_cons (o1 := false) (o2 := false) (xo_val (x_cv (t' := some (-1)) (x_un (ea := eI) (ec := eI) (f := fun a_ => some (-a_)) q_neg (xo_val (x_c (ea := eI) (v := 1) rfl)) okf) rfl)) xa_nil)) rfl) (fun _ => (by decide : 2 ≤ 1000)))) rfl)) (xa_cons (o1 := false) (o2 := false) (xo_val (x_cv (t' := some (2, (-1))) (x_up (ea := (eTu (fC eI (fC eI f0)))) (eb := (eTu (fC eI (f1 eI)))) (fun x_ => (x_.1, x_.2.1)) (fun _ => rfl) (x_tup (xa_cv (t' := some (2, (-1), ())) (xa_cons (o1 := false) (o2 := false) (xo_val (x_c (ea := eI) (v := 2) rfl)) (xa_cons (o1 := false) (o2 := false) (xo_val (x_cv (t' := some (-1)) (x_un (ea := eI) (ec := eI) (f := fun a_ => some (-a_)) q_neg (xo_val (x_c (ea := eI) (v := 1) rfl)) okf) rfl)) xa_nil)) rfl) (fun _ => (by decide : 2 ≤ 1000)))) rfl)) xa_nil)) rfl) (fun _ => (by decide : 2 ≤ 1000)))) rfl)) xa_nil)) rfl) okk)
          · refine xb_weak (L' := [(some (some (eI many))), (some (some ((eT (eTu (fC eI (f1 eI)))) found_1))), (some (some (eI y)))]) ?_ ⟨rfl, rfl, rfl, trivial⟩
            exact (xb_nx (env := (fun (st_ : ((List (Int × Int)))) => [(some (some (eI many))), (some (some ((eT (eTu (fC eI (f1 eI)))) st_))), none])) (s := (found_1)) ⟨rfl, rfl, trivial⟩)
      · refine xb_weak (L' := [(some (some (eI many))), (some (some ((eT (eTu (fC eI (f1 eI)))) st_1))), none]) ?_ ⟨rfl, rfl, trivial⟩
        exact (xb_retI (rv_ok rfl) (XP.w (x_var (ea := (eT (eTu (fC eI (f1 eI))))) (v := st_1) rfl))))
def l0_law_sum (far : Int) (st : (Src × PyData)) (y : Int) : Option (Src × PyData) := drw ((ofT ([1, (-1), 2, (-3), 7])) st.1) fun xv_ s1_ => drw ((thn2 (thn2 (lif (Option.bind (mulT 2 far) fun x_2 => some ((x_2 + 1)))) fun x_4 => pickT x_4) fun x_5 => fun s_ => some ((x_5 - far), s_)) s1_) fun xk_ s_2 => Option.bind (dPutT .dk st.2 (eI xk_) (eI xv_)) fun found_1 => some (s_2, found_1)
def t_law_sum (many : Int) (far : Int) (s : Src) : Option ((List (Int × Int)) × Src) := Option.bind (some (PyData.dict [])) fun found => Option.bind (α := (Src × PyData)) (drw ((thn2 (pickT (many + 1)) fun x_1 => lif (rng1T x_1)) s) fun x_ s_1 => forP (l0_law_sum far) x_ (s_1, found)) fun st_1 => Option.map (fun v_ => (v_, st_1.1)) (t_law_told st_1.2)
theorem k__law_sum : FTS m_law_sum 2 (fC eI (fC eI f0)) (eT (eTu (fC eI (f1 eI)))) (fun p_ s_ => t_law_sum p_.1 p_.2.1 s_) :=
  fts_of rfl (fun _ => rfl) rfl (by decide) (fun s (many, far, ()) => by
    unfold t_law_sum
    refine xb_weak (L' := [(some (some (eX s))), (some (some (eI many))), (some (some (eI far))), (some none), (some none)]) ?_ ⟨rfl, rfl, rfl, rfl, rfl, trivial⟩
    refine xb_asg (ea := eA) ?_ (fun found => xg_nm) fun found => ?_
    · exact (x_c (ea := eA) (v := PyData.dict []) rfl)
    · refine xb_weak (L' := [(some (some (eX s))), (some (some (eI many))), (some (some (eI far))), (some (some (eA found))), (some none)]) ?_ ⟨rfl, rfl, rfl, rfl, rfl, trivial⟩
      refine xb_thn (σ := (Src × PyData)) (env := (fun (st_ : (Src × PyData)) => [(some (some (eX st_.1))), (some (some (eI many))), (some (some (eI far))), (some (some (eA st_.2))), none])) ?_ fun st_1 => ?_
      · refine xs_for (L := (fun s_ => [(some (some (eX s_))), (some (some (eI many))), (some (some (eI far))), (some (some (eA found))), (some none)])) (ea := eI) (env := (fun (st_ : (Src × PyData)) => [(some (some (eX st_.1))), (some (some (eI many))), (some (some (eI far))), (some (some (eA st_.2))), none])) (f := (l0_law_sum far)) (s0 := fun s_1 => (s_1, found)) ?_ (fun s_1 => ⟨rfl, rfl, rfl, rfl, trivial⟩) (fun st y => xg_nm) (fun st y => ?_)
        · exact (xsi_cv (t' := (thn2 (pickT (many + 1)) fun x_1 => lif (rng1T x_1))) (xsi_rng1 (xsa_cv (t' := (thn2 (pickT (many + 1)) fun x => fun s_ => some ((x, ()), s_))) (xsa_cons (o1 := false) (o2 := false) (xso_val (si := 0) (xs_cv (t' := (pickT (many + 1))) (xs_callS (f := (fun (p_ : Int × Unit) s_ => pickT p_.1 s_)) k__law_pick (fun _ => rfl) (fun _ _ => rfl) (xsa_cons (o1 := false) (o2 := false) (xso_val (si := 0) (xs_cv (t' := (fun s_ => some ((many + 1), s_))) (xs_pure (t := (some (many + 1))) fun s_ => (x_cv (t' := some (many + 1)) (x_bin (ea := eI) (eb := eI) (ec := eI) (f := (fun a_ b_ => some ((a_ + b_)))) q_add (xo_val (x_var (ea := eI) (v := many) rfl)) (xo_val (x_c (ea := eI) (v := 1) rfl)) okf) rfl)) rfl)) (xsa_nil (si := 0))) okk) (by first | with_reducible rfl | (funext s_; simp -implicitDefEqProofs only [thn2, lif, Option.map_eq_bind, Option.bind_assoc, Option.bind_some, Function.comp_def]) | rfl))) (xsa_nil (si := 0))) (by first | with_reducible rfl | (funext s_; simp -implicitDefEqProofs only [thn2, lif, Option.map_eq_bind, Option.bind_assoc, Option.bind_some, Function.comp_def]) | rfl))) (by first | with_reducible rfl | (funext s_; simp -implicitDefEqProofs only [thn2, lif, Option.map_eq_bind, Option.bind_assoc, Option.bind_some, Function.comp_def]) | rfl))
        · unfold l0_law_sum
          refine xb_weak (L' := [(some (some (eX st.1))), (some (some (eI many))), (some (some (eI far))), (some (some (eA st.2))), (some (some (eI y)))]) ?_ ⟨rfl, rfl, rfl, rfl, rfl, trivial⟩
          refine xb_seq_nx ?_
          refine xb_dPutS (L := (fun s_ => [(some (some (eX s_))), (some (some (eI many))), (some (some (eI far))), (some (some (eA st.2))), (some (some (eI y)))])) (kd := .dk) (ea := eI) (eb := eI) (d := st.2) (t := (ofT ([1, (-1), 2, (-3), 7]))) (tk := (thn2 (thn2 (lif (Option.bind (mulT 2 far) fun x_2 => some ((x_2 + 1)))) fun x_4 => pickT x_4) fun x_5 => fun s_ => some ((x_5 - far), s_))) (fun _ => rfl) ?_ ?_ fun found_1 s_2 => ?_
          · exact (xs_cv (t' := (ofT ([1, (-1), 2, (-3), 7]))) (xs_callS (f := fun (p_ : (List Int) × Unit) s_ => ofT p_.1 s_) (k__law_ofL (ea := eI)) (fun _ => rfl) (fun _ _ => rfl) (xsa_cons (o1 := false) (o2 := false) (xso_val (si := 0) (xs_cv (t' := (fun s_ => some ([1, (-1), 2, (-3), 7], s_))) (xs_pure (t := (some [1, (-1), 2, (-3), 7])) fun s_ => (x_cv (t' := some ([1, (-1), 2, (-3), 7])) (x_up (ea := (fun p_ => PyData.list ((fC eI (fC eI (fC eI (fC eI (fC eI f0))))) p_))) (eb := (eL eI)) (fun x_ => [x_.1, x_.2.1, x_.2.2.1, x_.2.2.2.1, x_.2.2.2.2.1]) (fun _ => rfl) (x_lst (xa_cv (t' := some (1, (-1), 2, (-3), 7, ())) (xa_cons (o1 := false) (o2 := false) (xo_val (x_c (ea := eI) (v := 1) rfl)) (xa_cons (o1 := false) (o2 := false) (xo_val (x_cv (t' := some (-1)) (x_un (ea := eI) (ec := eI) (f := fun a_ => some (-a_)) q_neg (xo_val (x_c (ea := eI) (v := 1) rfl)) okf) rfl)) (xa_cons (o1 := false) (o2 := false) (xo_val (x_c (ea := eI) (v := 2) rfl)) (xa_cons (o1 := false) (o2 := false) (xo_val (x_cv (t' := some (-3)) (x_un (ea := eI) (ec := eI) (f := fun a_ => some (-a_)) q_neg (xo_val (x_c (ea := eI) (v := 3) rfl)) okf) rfl)) (xa_cons (o1 := false) (o2 := false) (xo_val (x_c (ea := eI) (v := 7) rfl)) xa_nil))))) rfl) (fun _ => (by decide : 5 ≤ 1000)))) rfl)) rfl)) (xsa_nil (si := 0))) okk) (by first | with_reducible rfl | (funext s_; simp -implicitDefEqProofs only [thn2, lif, Option.map_eq_bind, Option.bind_assoc, Option.bind_some, Function.comp_def]) | rfl))
          · exact (xs_cv (t' := (thn2 (thn2 (lif (Option.bind (mulT 2 far) fun x_2 => some ((x_2 + 1)))) fun x_4 => pickT x_4) fun x_5 => fun s_ => some ((x_5 - far), s_))) (xs_bin (ea := eI) (eb := eI) (ec := eI) (f := (fun a_ b_ => some ((a_ - b_)))) q_sub (xso_val (si := 0) (xs_cv (t' := (thn2 (lif (Option.bind (mulT 2 far) fun x_2 => some ((x_2 + 1)))) fun x_4 => pickT x_4)) (xs_callS (f := (fun (p_ : Int × Unit) s_ => pickT p_.1 s_)) k__law_pick (fun _ => rfl) (fun _ _ => rfl) (xsa_cons (o1 := false) (o2 := false) (xso_val (si := 0) (xs_pure (t := (Option.bind (mulT 2 far) fun x_2 => some ((x_2 + 1)))) fun s_ => (x_cv (t' := (Option.bind (mulT 2 far) fun x_2 => some ((x_2 + 1)))) (x_bin (ea := eI) (eb := eI) (ec := eI) (f := (fun a_ b_ => some ((a_ + b_)))) q_add (xo_val (x_binT (ea := eI) (eb := eI) (ec := eI) (f := (fun a_ b_ => mulT a_ b_)) (a := 2) (b := far) q_mul (xo_val (x_c (ea := eI) (v := 2) rfl)) (xo_val (x_var (ea := eI) (v := far) rfl)) okf)) (xo_val (x_c (ea := eI) (v := 1) rfl)) okf) (by first | with_reducible rfl | simp -implicitDefEqProofs only [Option.map_eq_bind, Option.bind_assoc, Option.bind_some, Function.comp_def] | rfl)))) (xsa_nil (si := 0))) okk) (by first | with_reducible rfl | (funext s_; simp -implicitDefEqProofs only [thn2, lif, Option.map_eq_bind, Option.bind_assoc, Option.bind_some, Function.comp_def]) | rfl))) (xso_val (si := 0) (xs_cv (t' := (fun s_ => some (far, s_))) (xs_pure (t := (some far)) fun s_ => (x_var (ea := eI) (v := far) rfl)) rfl)) okf) (by first | with_reducible rfl | (funext s_; simp -implicitDefEqProofs only [thn2, lif, Option.map_eq_bind, Option.bind_assoc, Option.bind_some, Function.comp_def]) | rfl))
          · refine xb_weak (L' := [(some (some (eX s_2))), (some (some (eI many))), (some (some (eI far))), (some (some (eA found_1))), (some (some (eI y)))]) ?_ ⟨rfl, rfl, rfl, rfl, rfl, trivial⟩
            exact (xb_nx (env := (fun (st_ : (Src × PyData)) => [(some (some (eX st_.1))), (some (some (eI many))), (some (some (eI far))), (some (some (eA st_.2))), none])) (s := (s_2, found_1)) ⟨rfl, rfl, rfl, rfl, trivial⟩)
      · refine xb_weak (L' := [(some (some (eX st_1.1))), (some (some (eI many))), (some (some (eI far))), (some (some (eA st_1.2))), none]) ?_ ⟨rfl, rfl, rfl, rfl, trivial⟩
        exact (xb_cv (xb_retX (ea := (eT (eTu (fC eI (f1 eI))))) (k := (fun v_ => (v_, st_1.1))) (fun _ _ h_ => rvs_ok h_ rfl rfl) (x_callT (f := (fun (p_ : PyData × Unit) => t_law_told p_.1)) (p := (st_1.2, ())) k__law_told (xa_cv (t' := some (st_1.2, ())) (xa_cons (o1 := true) (o2 := false) (xo_slot (ea := eA) (v := st_1.2) rfl) xa_nil) rfl) (okkP (immTu (immC immI (imm1 immI)))))) rfl))
def t_law_is_int (value : PyData) : Option Bool := (some ((isiT (tyD (eA value)) "int") && (!(isiT (tyD (eA value)) "bool"))))
theorem k__law_is_int : FT m_law_is_int 1 (fC eA f0) eB (fun p_ => t_law_is_int p_.1) :=
  ft_ofK rfl (fun _ => rfl) rfl (by decide) (fun (value, ()) => by
    unfold t_law_is_int
    refine xb_weak (L' := [(some (some (eA value)))]) ?_ ⟨rfl, trivial⟩
    exact (xb_retI (rv_ok rfl) (XP.w (x_cv (t' := some ((isiT (tyD (eA value)) "int") && (!(isiT (tyD (eA value)) "bool")))) (x_andT (x_cv (t' := some (isiT (tyD (eA value)) "int")) (x_isi (ea := eA) (c := "int") rfl (xo_val (x_var (ea := eA) (v := value) rfl))) rfl) (x_cv (t' := some (!(isiT (tyD (eA value)) "bool"))) (x_not (x_cv (t' := some (isiT (tyD (eA value)) "bool")) (x_isi (ea := eA) (c := "bool") rfl (xo_val (x_var (ea := eA) (v := value) rfl))) rfl)) rfl)) rfl))))
def l0_law_is_sum  (st : Unit) (y : PyData) : Option (Ctl Bool Unit) := Option.bind (if (!(isiT (tyD (eA y)) "tuple")) = true then some true else (Option.bind (Option.bind (Option.bind (lenD [eA y]) asI) fun x => some ((!decide (x = 2)))) fun x_ => if x_ = true then some true else (Option.bind (Option.bind (itemD (eA y) (eI 0)) fun x_2 => t_law_is_int x_2) fun x_3 => some ((!x_3))))) fun b_ => if b_ = true then (some (Ctl.rt false)) else Option.bind (Option.bind (Option.bind (Option.bind (itemD (eA y) (eI 1)) fun x_5 => t_law_is_int x_5) fun x_6 => some ((!x_6))) fun x_ => if x_ = true then some true else (Option.bind (itemD (eA y) (eI 1)) fun x_7 => Option.bind (eqE (eA x_7) (eI 0)) bOf)) fun b_ => if b_ = true then (some (Ctl.rt false)) else (some (Ctl.nx ()))
def t_law_is_sum (value : PyData) : Option Bool := if (!(isiT (tyD (eA value)) "tuple")) = true then ((some false)) else Option.bind (Option.bind (itsOf value) fun x_ => forC l0_law_is_sum x_ ()) (ctlK (σ := Unit) (fun v_ => v_) (fun _ => none) (fun _ => none) fun st_1 => (Option.bind (Option.bind (Option.bind (Option.bind (lenD [eA value]) asI) fun x_9 => rng2T 1 x_9) fun x_14 => compG (fun (y_1 : Int) => (Option.bind (Option.bind (itemD (eA value) (eI y_1)) fun x_10 => itemD (eA x_10) (eI 0)) fun x_12 => Option.bind (Option.bind (itemD (eA value) (eI (y_1 - 1))) fun x_11 => itemD (eA x_11) (eI 0)) fun x_13 => Option.bind (leD (eA x_12) (eA x_13)) bOf)) (fun (y_1 : Int) => (some y_1)) x_14) fun x_15 => some ((decide (x_15 = ([] : (List Int)))))))
theorem k__law_is_sum : FT m_law_is_sum 1 (fC eA f0) eB (fun p_ => t_law_is_sum p_.1) :=
  ft_ofK rfl (fun _ => rfl) rfl (by decide) (fun (value, ()) => by
    unfold t_law_is_sum
    refine xb_weak (L' := [(some (some (eA value))), (some none), (some none)]) ?_ ⟨rfl, rfl, rfl, trivial⟩
    refine xb_ifGT ?_ gone_ret ?_ ?_
    · exact (xt_cv (t' := some (!(isiT (tyD (eA value)) "tuple"))) (xt_not (xt_test (x_cv (t' := some (isiT (tyD (eA value)) "tuple")) (x_isi (ea := eA) (c := "tuple") rfl (xo_val (x_var (ea := eA) (v := value) rfl))) rfl))) rfl)
    · refine xb_weak (L' := [(some (some (eA value))), (some none), (some none)]) ?_ ⟨rfl, rfl, rfl, trivial⟩
      exact (xb_retI (rv_ok rfl) (XP.w (x_c (ea := eB) (v := false) rfl)))
    · refine xb_weak (L' := [(some (some (eA value))), (some none), (some none)]) ?_ ⟨rfl, rfl, rfl, trivial⟩
      refine xb_thnC (σ := Unit) (Rr := (RV 3 eB)) (env := (fun (st_ : Unit) => [(some (some (eA value))), none, (some none)])) (kb := fun _ => none) (kc := fun _ => none) (k := (fun v_ => v_)) (fun _ _ h_ => h_) rv_nn (fun _ _ h_ => nomatch h_) (fun _ _ h_ => nomatch h_) ?_ fun st_1 => ?_
      · refine xb_forC (ea := eA) (env := (fun (st_ : Unit) => [(some (some (eA value))), none, (some none)])) (f := l0_law_is_sum) (s0 := ()) (L := [(some (some (eA value))), (some none), (some none)]) (Rr := (RV 3 eB)) rv_rt ?_ ⟨rfl, rfl, trivial⟩ (fun st y => xg_nm) (fun st y => ?_)
        · exact (xi2 (xi_anyT (x_var (ea := eA) (v := value) rfl)))
        · unfold l0_law_is_sum
          refine xb_weak (L' := [(some (some (eA value))), (some (some (eA y))), (some none)]) ?_ ⟨rfl, rfl, rfl, trivial⟩
          refine xb_ifG ?_ gone_ret ?_ ?_
          · exact (xt_cv (t' := (if (!(isiT (tyD (eA y)) "tuple")) = true then some true else (Option.bind (Option.bind (Option.bind (lenD [eA y]) asI) fun x => some ((!decide (x = 2)))) fun x_ => if x_ = true then some true else (Option.bind (Option.bind (itemD (eA y) (eI 0)) fun x_2 => t_law_is_int x_2) fun x_3 => some ((!x_3)))))) (xt_or (xt_cv (t' := some (!(isiT (tyD (eA y)) "tuple"))) (xt_not (xt_test (x_cv (t' := some (isiT (tyD (eA y)) "tuple")) (x_isi (ea := eA) (c := "tuple") rfl (xo_val (x_var (ea := eA) (v := y) rfl))) rfl))) rfl) (xt_cv (t' := (Option.bind (Option.bind (Option.bind (lenD [eA y]) asI) fun x => some ((!decide (x = 2)))) fun x_ => if x_ = true then some true else (Option.bind (Option.bind (itemD (eA y) (eI 0)) fun x_2 => t_law_is_int x_2) fun x_3 => some ((!x_3))))) (xt_or (xt_test (x_cv (t' := (Option.bind (Option.bind (lenD [eA y]) asI) fun x => some ((!decide (x = 2))))) (x_bin (ea := eI) (eb := eI) (ec := eB) (f := (fun a_ b_ => some ((!decide (a_ = b_))))) (q_ne eqI) (xo_val (x_callBT (ec := eI) (f := (fun (p_ : PyData × Unit) => Option.bind (lenD [eA p_.1]) asI)) (p := (y, ())) (q_extB (ea := eA) asI_x) (xa_cv (t' := some (y, ())) (xa_cons (o1 := false) (o2 := false) (xo_val (x_var (ea := eA) (v := y) rfl)) xa_nil) rfl) okf)) (xo_val (x_c (ea := eI) (v := 2) rfl)) okf) (by first | with_reducible rfl | simp -implicitDefEqProofs only [Option.map_eq_bind, Option.bind_assoc, Option.bind_some, Function.comp_def] | rfl))) (xt_cv (t' := (Option.bind (Option.bind (itemD (eA y) (eI 0)) fun x_2 => t_law_is_int x_2) fun x_3 => some ((!x_3)))) (xt_not (xt_test (x_cv (t' := (Option.bind (itemD (eA y) (eI 0)) fun x_2 => t_law_is_int x_2)) (x_call (f := (fun (p_ : PyData × Unit) => t_law_is_int p_.1)) k__law_is_int (xa_cv (t' := (Option.bind (itemD (eA y) (eI 0)) fun x_1 => some ((x_1, ())))) (xa_cons (o1 := false) (o2 := false) (xo_val (x_binT (ea := eA) (eb := eI) (ec := eA) (f := (fun a_ b_ => itemD (eA a_) (eI b_))) (a := y) (b := 0) q_any2 (xo_val (x_var (ea := eA) (v := y) rfl)) (xo_val (x_c (ea := eI) (v := 0) rfl)) okf)) xa_nil) (by first | with_reducible rfl | simp -implicitDefEqProofs only [Option.map_eq_bind, Option.bind_assoc, Option.bind_some, Function.comp_def] | rfl)) okk) (by first | with_reducible rfl | simp -implicitDefEqProofs only [Option.map_eq_bind, Option.bind_assoc, Option.bind_some, Function.comp_def] | rfl)))) (by first | with_reducible rfl | simp -implicitDefEqProofs only [Option.map_eq_bind, Option.bind_assoc, Option.bind_some, Function.comp_def] | rfl))) rfl)) rfl)
          · refine xb_weak (L' := [(some (some (eA value))), (some (some (eA y))), (some none)]) ?_ ⟨rfl, rfl, rfl, trivial⟩
            exact (xb_cv (xb_ret (k := fun v_ => (Ctl.rt v_)) (rv_ok rfl) (XP.w (x_c (ea := eB) (v := false) rfl))) rfl)
          · refine xb_weak (L' := [(some (some (eA value))), (some (some (eA y))), (some none)]) ?_ ⟨rfl, rfl, rfl, trivial⟩
            refine xb_if ?_ ?_ ?_
            · exact (xt_cv (t' := (Option.bind (Option.bind (Option.bind (itemD (eA y) (eI 1)) fun x_5 => t_law_is_int x_5) fun x_6 => some ((!x_6))) fun x_ => if x_ = true then some true else (Option.bind (itemD (eA y) (eI 1)) fun x_7 => Option.bind (eqE (eA x_7) (eI 0)) bOf))) (xt_or (xt_cv (t' := (Option.bind (Option.bind (itemD (eA y) (eI 1)) fun x_5 => t_law_is_int x_5) fun x_6 => some ((!x_6)))) (xt_not (xt_test (x_cv (t' := (Option.bind (itemD (eA y) (eI 1)) fun x_5 => t_law_is_int x_5)) (x_call (f := (fun (p_ : PyData × Unit) => t_law_is_int p_.1)) k__law_is_int (xa_cv (t' := (Option.bind (itemD (eA y) (eI 1)) fun x_4 => some ((x_4, ())))) (xa_cons (o1 := false) (o2 := false) (xo_val (x_binT (ea := eA) (eb := eI) (ec := eA) (f := (fun a_ b_ => itemD (eA a_) (eI b_))) (a := y) (b := 1) q_any2 (xo_val (x_var (ea := eA) (v := y) rfl)) (xo_val (x_c (ea := eI) (v := 1) rfl)) okf)) xa_nil) (by first | with_reducible rfl | simp -implicitDefEqProofs only [Option.map_eq_bind, Option.bind_assoc, Option.bind_some, Function.comp_def] | rfl)) okk) (by first | with_reducible rfl | simp -implicitDefEqProofs only [Option.map_eq_bind, Option.bind_assoc, Option.bind_some, Function.comp_def] | rfl)))) (by first | with_reducible rfl | simp -implicitDefEqProofs only [Option.map_eq_bind, Option.bind_assoc, Option.bind_some, Function.comp_def] | rfl)) (xt_test (x_cv (t' := (Option.bind (itemD (eA y) (eI 1)) fun x_7 => Option.bind (eqE (eA x_7) (eI 0)) bOf)) (x_bin (ea := eA) (eb := eI) (ec := eB) (f := (fun a_ b_ => Option.bind (eqE (eA a_) (eI b_)) bOf)) (q_ext2 bOf_x) (xo_val (x_binT (ea := eA) (eb := eI) (ec := eA) (f := (fun a_ b_ => itemD (eA a_) (eI b_))) (a := y) (b := 1) q_any2 (xo_val (x_var (ea := eA) (v := y) rfl)) (xo_val (x_c (ea := eI) (v := 1) rfl)) okf)) (xo_val (x_c (ea := eI) (v := 0) rfl)) okf) (by first | with_reducible rfl | simp -implicitDefEqProofs only [Option.map_eq_bind, Option.bind_assoc, Option.bind_some, Function.comp_def] | rfl)))) rfl)
            · refine xb_weak (L' := [(some (some (eA value))), (some (some (eA y))), (some none)]) ?_ ⟨rfl, rfl, rfl, trivial⟩
              exact (xb_cv (xb_ret (k := fun v_ => (Ctl.rt v_)) (rv_ok rfl) (XP.w (x_c (ea := eB) (v := false) rfl))) rfl)
            · exact (xb_nxc (Rr := (RV 3 eB)) (env := (fun (st_ : Unit) => [(some (some (eA value))), none, (some none)])) (s := ()) ⟨rfl, rfl, trivial⟩)
      · refine xb_weak (L' := [(some (some (eA value))), none, (some none)]) ?_ ⟨rfl, rfl, trivial⟩
        exact (xb_retI (rv_ok rfl) (XP.w (x_cv (t' := (Option.bind (Option.bind (Option.bind (Option.bind (lenD [eA value]) asI) fun x_9 => rng2T 1 x_9) fun x_14 => compG (fun (y_1 : Int) => (Option.bind (Option.bind (itemD (eA value) (eI y_1)) fun x_10 => itemD (eA x_10) (eI 0)) fun x_12 => Option.bind (Option.bind (itemD (eA value) (eI (y_1 - 1))) fun x_11 => itemD (eA x_11) (eI 0)) fun x_13 => Option.bind (leD (eA x_12) (eA x_13)) bOf)) (fun (y_1 : Int) => (some y_1)) x_14) fun x_15 => some ((decide (x_15 = ([] : (List Int))))))) (x_bin (ea := (eL eI)) (eb := (eL eI)) (ec := eB) (f := (fun a_ b_ => some ((decide (a_ = b_))))) (q_eqE (q_eq (eqL eqI))) (xo_val (x_cv (t' := (Option.bind (Option.bind (Option.bind (lenD [eA value]) asI) fun x_9 => rng2T 1 x_9) fun x_14 => compG (fun (y_1 : Int) => (Option.bind (Option.bind (itemD (eA value) (eI y_1)) fun x_10 => itemD (eA x_10) (eI 0)) fun x_12 => Option.bind (Option.bind (itemD (eA value) (eI (y_1 - 1))) fun x_11 => itemD (eA x_11) (eI 0)) fun x_13 => Option.bind (leD (eA x_12) (eA x_13)) bOf)) (fun (y_1 : Int) => (some y_1)) x_14)) (x_compI (ea := eI) (eb := eI) (p := fun (y_1 : Int) => (Option.bind (Option.bind (itemD (eA value) (eI y_1)) fun x_10 => itemD (eA x_10) (eI 0)) fun x_12 => Option.bind (Option.bind (itemD (eA value) (eI (y_1 - 1))) fun x_11 => itemD (eA x_11) (eI 0)) fun x_13 => Option.bind (leD (eA x_12) (eA x_13)) bOf)) (f := fun (y_1 : Int) => (some y_1)) (xi_cv (t' := (Option.bind (Option.bind (lenD [eA value]) asI) fun x_9 => rng2T 1 x_9)) (xi_rng2 (xa_cv (t' := (Option.bind (Option.bind (lenD [eA value]) asI) fun x_8 => some ((1, x_8, ())))) (xa_cons (o1 := false) (o2 := false) (xo_val (x_c (ea := eI) (v := 1) rfl)) (xa_cons (o1 := false) (o2 := false) (xo_val (x_callBT (ec := eI) (f := (fun (p_ : PyData × Unit) => Option.bind (lenD [eA p_.1]) asI)) (p := (value, ())) (q_extB (ea := eA) asI_x) (xa_cv (t' := some (value, ())) (xa_cons (o1 := false) (o2 := false) (xo_val (x_var (ea := eA) (v := value) rfl)) xa_nil) rfl) okf)) xa_nil)) (by first | with_reducible rfl | simp -implicitDefEqProofs only [Option.map_eq_bind, Option.bind_assoc, Option.bind_some, Function.comp_def] | rfl))) (by first | with_reducible rfl | simp -implicitDefEqProofs only [Option.map_eq_bind, Option.bind_assoc, Option.bind_some, Function.comp_def] | rfl)) (fun y_1 => xg_nm) (fun y_1 => ⟨rfl, rfl, trivial⟩) (fun y_1 => (xt_test (x_cv (t' := (Option.bind (Option.bind (itemD (eA value) (eI y_1)) fun x_10 => itemD (eA x_10) (eI 0)) fun x_12 => Option.bind (Option.bind (itemD (eA value) (eI (y_1 - 1))) fun x_11 => itemD (eA x_11) (eI 0)) fun x_13 => Option.bind (leD (eA x_12) (eA x_13)) bOf)) (x_bin (ea := eA) (eb := eA) (ec := eB) (f := (fun a_ b_ => Option.bind (leD (eA a_) (eA b_)) bOf)) (q_ext2 bOf_x) (xo_val (x_cv (t' := (Option.bind (itemD (eA value) (eI y_1)) fun x_10 => itemD (eA x_10) (eI 0))) (x_bin (ea := eA) (eb := eI) (ec := eA) (f := (fun a_ b_ => itemD (eA a_) (eI b_))) q_any2 (xo_val (x_binT (ea := eA) (eb := eI) (ec := eA) (f := (fun a_ b_ => itemD (eA a_) (eI b_))) (a := value) (b := y_1) q_any2 (xo_val (x_var (ea := eA) (v := value) rfl)) (xo_val (x_var (ea := eI) (v := y_1) rfl)) okf)) (xo_val (x_c (ea := eI) (v := 0) rfl)) okf) (by first | with_reducible rfl | simp -implicitDefEqProofs only [Option.map_eq_bind, Option.bind_assoc, Option.bind_some, Function.comp_def] | rfl))) (xo_val (x_cv (t' := (Option.bind (itemD (eA value) (eI (y_1 - 1))) fun x_11 => itemD (eA x_11) (eI 0))) (x_bin (ea := eA) (eb := eI) (ec := eA) (f := (fun a_ b_ => itemD (eA a_) (eI b_))) q_any2 (xo_val (x_binT (ea := eA) (eb := eI) (ec := eA) (f := (fun a_ b_ => itemD (eA a_) (eI b_))) (a := value) (b := (y_1 - 1)) q_any2 (xo_val (x_var (ea := eA) (v := value) rfl)) (xo_val (x_cv (t' := some (y_1 - 1)) (x_bin (ea := eI) (eb := eI) (ec := eI) (f := (fun a_ b_ => some ((a_ - b_)))) q_sub (xo_val (x_var (ea := eI) (v := y_1) rfl)) (xo_val (x_c (ea := eI) (v := 1) rfl)) okf) rfl)) okf)) (xo_val (x_c (ea := eI) (v := 0) rfl)) okf) (by first | with_reducible rfl | simp -implicitDefEqProofs only [Option.map_eq_bind, Option.bind_assoc, Option.bind_some, Function.comp_def] | rfl))) okf) (by first | with_reducible rfl | simp -implicitDefEqProofs only [Option.map_eq_bind, Option.bind_assoc, Option.bind_some, Function.comp_def] | rfl)))) (fun y_1 => (x_var (ea := eI) (v := y_1) rfl))) rfl)) (xo_val (x_cv (t' := some ([] : (List Int))) (x_up (ea := (fun p_ => PyData.list (f0 p_))) (eb := (eL eI)) (fun x_ => []) (fun _ => rfl) (x_lst (xa_cv (t' := some (())) xa_nil rfl) (fun _ => (by decide : 0 ≤ 1000)))) rfl)) okf) (by first | with_reducible rfl | simp -implicitDefEqProofs only [Option.map_eq_bind, Option.bind_assoc, Option.bind_some, Function.comp_def] | rfl)))))
def ts_law_near (rec_ : PyData → (List PyData) → Src → Option (PyData × Src)) (value : PyData) (odd : (List PyData)) (s : Src) : Option (PyData × Src) := drw ((thn2 (lif (t_law_is_int value)) fun x_ s_ => if x_ = true then (thn2 (pickT 3) fun x => fun s_ => some ((decide (0 < x)), s_)) s_ else some (false, s_)) s) fun b_ s_1 => if b_ = true then (drw ((thn2 (ofT ([1, (-1), 2])) fun x_1 => lif (addD (eA value) (eI x_1))) s_1) fun v_ s_ => some (v_, s_)) else drw ((fun s_ => if (!(isiT (tyD (eA value)) "tuple")) = true then some (true, s_) else (thn2 (lif (Option.bind (eqE (eA value) ((eT eI) ([] : (List Int)))) bOf)) fun x_ s_ => if x_ = true then some (true, s_) else (thn2 (pickT 7) fun x_2 => fun s_ => some ((decide (x_2 = 0)), s_)) s_) s_) s_1) fun b_ s_2 => if b_ = true then (drw ((ofT odd) s_2) fun v_ s_ => some (v_, s_)) else drw ((thn2 (thn2 (lif (Option.bind (lenD [eA value]) asI)) fun x_4 => pickT x_4) fun x_5 => thn2 (pickT 6) fun x_6 => fun s_ => some ((x_5, x_6, ()), s_)) s_2) fun q s_3 => if (decide (q.2.1 < 4)) = true then (drw ((thn2 (thn2 (lif (sliceD none (some q.1) value)) fun x_11 => thn2 (thn2 (thn2 (lif (itemD (eA value) (eI q.1))) fun x_8 => rec_ x_8 odd) fun x_10 => fun s_ => some ((x_10), s_)) fun x_12 => lif (addD (eA x_11) ((eTu (f1 eA)) x_12))) fun x_13 => thn2 (lif (sliceD (some (q.1 + 1)) none value)) fun x_14 => lif (addD (eA x_13) (eA x_14))) s_3) fun v_ s_ => some (v_, s_)) else drw ((thn2 (lif (Option.bind (Option.bind (sliceD none (some q.1) value) fun x_15 => Option.bind (sliceD (some (q.1 + 1)) none value) fun x_16 => addD (eA x_15) (eA x_16)) fun x_23 => Option.bind (Option.bind (sliceD none (some (q.1 + 1)) value) fun x_17 => Option.bind (sliceD (some q.1) none value) fun x_18 => addD (eA x_17) (eA x_18)) fun x_24 => Option.bind (revTD none value) fun x_25 => Option.bind (listD [value]) fun x_26 => some ([x_23, x_24, x_25, x_26]))) fun p_ => ofT p_) s_3) fun v_ s_ => some (v_, s_)
def t_law_near : Nat → PyData → (List PyData) → Src → Option (PyData × Src)
  | 0 => fun _ _ _ => none
  | n + 1 => ts_law_near (t_law_near n)
theorem ks__law_near (rm_ : List PyData → Option (PyData × List PyData)) (rec_ : PyData → (List PyData) → Src → Option (PyData × Src)) (k_rec_ : FTS rm_ 2 (fC eA (fC (eL eA) f0)) eA (fun p_ s_ => rec_ p_.1 p_.2.1 s_)) : FTS (ms_law_near rm_) 2 (fC eA (fC (eL eA) f0)) eA (fun p_ s_ => ts_law_near rec_ p_.1 p_.2.1 s_) :=
  fts_of rfl (fun _ => rfl) rfl (by decide) (fun s (value, odd, ()) => by
    unfold ts_law_near
    refine xb_weak (L' := [(some (some (eX s))), (some (some (eA value))), (some (some ((eL eA) odd))), (some none), (some none)]) ?_ ⟨rfl, rfl, rfl, rfl, rfl, trivial⟩
    refine xs_ifG (L := (fun s_ => [(some (some (eX s_))), (some (some (eA value))), (some (some ((eL eA) odd))), (some none), (some none)])) (tc := (thn2 (lif (t_law_is_int value)) fun x_ s_ => if x_ = true then (thn2 (pickT 3) fun x => fun s_ => some ((decide (0 < x)), s_)) s_ else some (false, s_))) ?_ gone_ret (fun s_1 => ?_) (fun s_1 => ?_)
    · exact (xsb_cv (t' := (thn2 (lif (t_law_is_int value)) fun x_ s_ => if x_ = true then (thn2 (pickT 3) fun x => fun s_ => some ((decide (0 < x)), s_)) s_ else some (false, s_))) (xsb_and (xsb_pure (t := t_law_is_int value) fun s_ => (xt_test (x_callT (f := (fun (p_ : PyData × Unit) => t_law_is_int p_.1)) (p := (value, ())) k__law_is_int (xa_cv (t' := some (value, ())) (xa_cons (o1 := false) (o2 := false) (xo_val (x_var (ea := eA) (v := value) rfl)) xa_nil) rfl) okk))) (xsb_test (xs_cv (t' := (thn2 (pickT 3) fun x => fun s_ => some ((decide (0 < x)), s_))) (xs_bin (ea := eI) (eb := eI) (ec := eB) (f := (fun a_ b_ => some ((decide (b_ < a_))))) q_gt (xso_val (si := 0) (xs_cv (t' := (pickT 3)) (xs_callS (f := (fun (p_ : Int × Unit) s_ => pickT p_.1 s_)) k__law_pick (fun _ => rfl) (fun _ _ => rfl) (xsa_cons (o1 := false) (o2 := false) (xso_val (si := 0) (xs_cv (t' := (fun s_ => some (3, s_))) (xs_pure (t := (some 3)) fun s_ => (x_c (ea := eI) (v := 3) rfl)) rfl)) (xsa_nil (si := 0))) okk) (by first | with_reducible rfl | (funext s_; simp -implicitDefEqProofs only [thn2, lif, Option.map_eq_bind, Option.bind_assoc, Option.bind_some, Function.comp_def]) | rfl))) (xso_val (si := 0) (xs_cv (t' := (fun s_ => some (0, s_))) (xs_pure (t := (some 0)) fun s_ => (x_c (ea := eI) (v := 0) rfl)) rfl)) okf) (by first | with_reducible rfl | (funext s_; simp -implicitDefEqProofs only [thn2, lif, Option.map_eq_bind, Option.bind_assoc, Option.bind_some, Function.comp_def]) | rfl)))) rfl)
    · refine xb_weak (L' := [(some (some (eX s_1))), (some (some (eA value))), (some (some ((eL eA) odd))), (some none), (some none)]) ?_ ⟨rfl, rfl, rfl, rfl, rfl, trivial⟩
      exact (xs_ret (L := (fun s_ => [(some (some (eX s_))), (some (some (eA value))), (some (some ((eL eA) odd))), (some none), (some none)])) (ea := eA) (t := (thn2 (ofT ([1, (-1), 2])) fun x_1 => lif (addD (eA value) (eI x_1)))) (k := (fun v_ s_ => (v_, s_))) (fun _ _ _ h_ => rvs_ok h_ rfl rfl) (xs_cv (t' := (thn2 (ofT ([1, (-1), 2])) fun x_1 => lif (addD (eA value) (eI x_1)))) (xs_bin (ea := eA) (eb := eI) (ec := eA) (f := (fun a_ b_ => addD (eA a_) (eI b_))) q_any2 (xso_val (si := 0) (xs_cv (t' := (fun s_ => some (value, s_))) (xs_pure (t := (some value)) fun s_ => (x_var (ea := eA) (v := value) rfl)) rfl)) (xso_val (si := 0) (xs_cv (t' := (ofT ([1, (-1), 2]))) (xs_callS (f := fun (p_ : (List Int) × Unit) s_ => ofT p_.1 s_) (k__law_ofL (ea := eI)) (fun _ => rfl) (fun _ _ => rfl) (xsa_cons (o1 := false) (o2 := false) (xso_val (si := 0) (xs_cv (t' := (fun s_ => some ([1, (-1), 2], s_))) (xs_pure (t := (some [1, (-1), 2])) fun s_ => (x_cv (t' := some ([1, (-1), 2])) (x_up (ea := (fun p_ => PyData.list ((fC eI (fC eI (fC eI f0))) p_))) (eb := (eL eI)) (fun x_ => [x_.1, x_.2.1, x_.2.2.1]) (fun _ => rfl) (x_lst (xa_cv (t' := some (1, (-1), 2, ())) (xa_cons (o1 := false) (o2 := false) (xo_val (x_c (ea := eI) (v := 1) rfl)) (xa_cons (o1 := false) (o2 := false) (xo_val (x_cv (t' := some (-1)) (x_un (ea := eI) (ec := eI) (f := fun a_ => some (-a_)) q_neg (xo_val (x_c (ea := eI) (v := 1) rfl)) okf) rfl)) (xa_cons (o1 := false) (o2 := false) (xo_val (x_c (ea := eI) (v := 2) rfl)) xa_nil))) rfl) (fun _ => (by decide : 3 ≤ 1000)))) rfl)) rfl)) (xsa_nil (si := 0))) okk) (by first | with_reducible rfl | (funext s_; simp -implicitDefEqProofs only [thn2, lif, Option.map_eq_bind, Option.bind_assoc, Option.bind_some, Function.comp_def]) | rfl))) okf) (by first | with_reducible rfl | (funext s_; simp -implicitDefEqProofs only [thn2, lif, Option.map_eq_bind, Option.bind_assoc, Option.bind_some, Function.comp_def]) | rfl)))
    · refine xb_weak (L' := [(some (some (eX s_1))), (some (some (eA value))), (some (some ((eL eA) odd))), (some none), (some none)]) ?_ ⟨rfl, rfl, rfl, rfl, rfl, trivial⟩
      refine xs_ifG (L := (fun s_ => [(some (some (eX s_))), (some (some (eA value))), (some (some ((eL eA) odd))), (some none), (some none)])) (tc := (fun s_ => if (!(isiT (tyD (eA value)) "tuple")) = true then some (true, s_) else (thn2 (lif (Option.bind (eqE (eA value) ((eT eI) ([] : (List Int)))) bOf)) fun x_ s_ => if x_ = true then some (true, s_) else (thn2 (pickT 7) fun x_2 => fun s_ => some ((decide (x_2 = 0)), s_)) s_) s_)) ?_ gone_ret (fun s_2 => ?_) (fun s_2 => ?_)
      · exact (xsb_cv (t' := (fun s_ => if (!(isiT (tyD (eA value)) "tuple")) = true then some (true, s_) else (thn2 (lif (Option.bind (eqE (eA value) ((eT eI) ([] : (List Int)))) bOf)) fun x_ s_ => if x_ = true then some (true, s_) else (thn2 (pickT 7) fun x_2 => fun s_ => some ((decide (x_2 = 0)), s_)) s_) s_)) (xsb_or (xsb_cv (t' := (fun s_ => some ((!(isiT (tyD (eA value)) "tuple")), s_))) (xsb_pure (t := (some (!(isiT (tyD (eA value)) "tuple")))) fun s_ => (xt_cv (t' := some (!(isiT (tyD (eA value)) "tuple"))) (xt_not (xt_test (x_cv (t' := some (isiT (tyD (eA value)) "tuple")) (x_isi (ea := eA) (c := "tuple") rfl (xo_val (x_var (ea := eA) (v := value) rfl))) rfl))) rfl)) rfl) (xsb_cv (t' := (thn2 (lif (Option.bind (eqE (eA value) ((eT eI) ([] : (List Int)))) bOf)) fun x_ s_ => if x_ = true then some (true, s_) else (thn2 (pickT 7) fun x_2 => fun s_ => some ((decide (x_2 = 0)), s_)) s_)) (xsb_or (xsb_pure (t := Option.bind (eqE (eA value) ((eT eI) ([] : (List Int)))) bOf) fun s_ => (xt_test (x_binT (ea := eA) (eb := (eT eI)) (ec := eB) (f := (fun a_ b_ => Option.bind (eqE (eA a_) ((eT eI) b_)) bOf)) (a := value) (b := ([] : (List Int))) (q_ext2 bOf_x) (xo_val (x_var (ea := eA) (v := value) rfl)) (xo_val (x_cv (t' := some ([] : (List Int))) (x_up (ea := (eTu f0)) (eb := (eT eI)) (fun x_ => []) (fun _ => rfl) (x_tup (xa_cv (t' := some (())) xa_nil rfl) (fun _ => (by decide : 0 ≤ 1000)))) rfl)) okf))) (xsb_test (xs_cv (t' := (thn2 (pickT 7) fun x_2 => fun s_ => some ((decide (x_2 = 0)), s_))) (xs_bin (ea := eI) (eb := eI) (ec := eB) (f := (fun a_ b_ => some ((decide (a_ = b_))))) (q_eqE (q_eq eqI)) (xso_val (si := 0) (xs_cv (t' := (pickT 7)) (xs_callS (f := (fun (p_ : Int × Unit) s_ => pickT p_.1 s_)) k__law_pick (fun _ => rfl) (fun _ _ => rfl) (xsa_cons (o1 := false) (o2 := false) (xso_val (si := 0) (xs_cv (t' := (fun s_ => some (7, s_))) (xs_pure (t := (some 7)) fun s_ => (x_c (ea := eI) (v := 7) rfl)) rfl)) (xsa_nil (si := 0))) okk) (by first | with_reducible rfl | (funext s_; simp -implicitDefEqProofs only [thn2, lif, Option.map_eq_bind, Option.bind_assoc, Option.bind_some, Function.comp_def]) | rfl))) (xso_val (si := 0) (xs_cv (t' := (fun s_ => some (0, s_))) (xs_pure (t := (some 0)) fun s_ => (x_c (ea := eI) (v := 0) rfl)) rfl)) okf) (by first | with_reducible rfl | (funext s_; simp -implicitDefEqProofs only [thn2, lif, Option.map_eq_bind, Option.bind_assoc, Option.bind_some, Function.comp_def]) | rfl)))) rfl)) rfl)
      · refine xb_weak (L' := [(some (some (eX s_2))), (some (some (eA value))), (some (some ((eL eA) odd))), (some none), (some none)]) ?_ ⟨rfl, rfl, rfl, rfl, rfl, trivial⟩
        exact (xs_ret (L := (fun s_ => [(some (some (eX s_))), (some (some (eA value))), (some (some ((eL eA) odd))), (some none), (some none)])) (ea := eA) (t := (ofT odd)) (k := (fun v_ s_ => (v_, s_))) (fun _ _ _ h_ => rvs_ok h_ rfl rfl) (xs_cv (t' := (ofT odd)) (xs_callS (f := fun (p_ : (List PyData) × Unit) s_ => ofT p_.1 s_) (k__law_ofL (ea := eA)) (fun _ => rfl) (fun _ _ => rfl) (xsa_cons (o1 := false) (o2 := false) (xso_val (si := 0) (xs_cv (t' := (fun s_ => some (odd, s_))) (xs_pure (t := (some odd)) fun s_ => (x_var (ea := (eL eA)) (v := odd) rfl)) rfl)) (xsa_nil (si := 0))) okk) (by first | with_reducible rfl | (funext s_; simp -implicitDefEqProofs only [thn2, lif, Option.map_eq_bind, Option.bind_assoc, Option.bind_some, Function.comp_def]) | rfl)))
      · refine xb_weak (L' := [(some (some (eX s_2))), (some (some (eA value))), (some (some ((eL eA) odd))), (some none), (some none)]) ?_ ⟨rfl, rfl, rfl, rfl, rfl, trivial⟩
        refine xs_par (L := (fun s_ => [(some (some (eX s_))), (some (some (eA value))), (some (some ((eL eA) odd))), (some none), (some none)])) (fs := (fC eI (fC eI f0))) (t := (thn2 (thn2 (lif (Option.bind (lenD [eA value]) asI)) fun x_4 => pickT x_4) fun x_5 => thn2 (pickT 6) fun x_6 => fun s_ => some ((x_5, x_6, ()), s_))) ?_ fun q s_3 => ?_
        · exact (xsm_cv (t' := (thn2 (thn2 (lif (Option.bind (lenD [eA value]) asI)) fun x_4 => pickT x_4) fun x_5 => thn2 (pickT 6) fun x_6 => fun s_ => some ((x_5, x_6, ()), s_))) (xsm_cons (ea := eI) (xs_cv (t' := (thn2 (lif (Option.bind (lenD [eA value]) asI)) fun x_4 => pickT x_4)) (xs_callS (f := (fun (p_ : Int × Unit) s_ => pickT p_.1 s_)) k__law_pick (fun _ => rfl) (fun _ _ => rfl) (xsa_cons (o1 := false) (o2 := false) (xso_val (si := 0) (xs_pure (t := Option.bind (lenD [eA value]) asI) fun s_ => (x_callBT (ec := eI) (f := (fun (p_ : PyData × Unit) => Option.bind (lenD [eA p_.1]) asI)) (p := (value, ())) (q_extB (ea := eA) asI_x) (xa_cv (t' := some (value, ())) (xa_cons (o1 := false) (o2 := false) (xo_val (x_var (ea := eA) (v := value) rfl)) xa_nil) rfl) okf))) (xsa_nil (si := 0))) okk) (by first | with_reducible rfl | (funext s_; simp -implicitDefEqProofs only [thn2, lif, Option.map_eq_bind, Option.bind_assoc, Option.bind_some, Function.comp_def]) | rfl)) (xsm_cons (ea := eI) (xs_cv (t' := (pickT 6)) (xs_callS (f := (fun (p_ : Int × Unit) s_ => pickT p_.1 s_)) k__law_pick (fun _ => rfl) (fun _ _ => rfl) (xsa_cons (o1 := false) (o2 := false) (xso_val (si := 0) (xs_cv (t' := (fun s_ => some (6, s_))) (xs_pure (t := (some 6)) fun s_ => (x_c (ea := eI) (v := 6) rfl)) rfl)) (xsa_nil (si := 0))) okk) (by first | with_reducible rfl | (funext s_; simp -implicitDefEqProofs only [thn2, lif, Option.map_eq_bind, Option.bind_assoc, Option.bind_some, Function.comp_def]) | rfl)) xsm_nil)) (by first | with_reducible rfl | (funext s_; simp -implicitDefEqProofs only [thn2, lif, Option.map_eq_bind, Option.bind_assoc, Option.bind_some, Function.comp_def]) | rfl))
        · refine xb_weak (L' := [(some (some (eX s_3))), (some (some (eA value))), (some (some ((eL eA) odd))), (some (some (eI q.1))), (some (some (eI q.2.1)))]) ?_ ⟨rfl, rfl, rfl, rfl, rfl, trivial⟩
          refine xb_ifGT ?_ gone_ret ?_ ?_
          · exact (xt_test (x_cv (t' := some (decide (q.2.1 < 4))) (x_bin (ea := eI) (eb := eI) (ec := eB) (f := (fun a_ b_ => some ((decide (a_ < b_))))) q_lt (xo_val (x_var (ea := eI) (v := q.2.1) rfl)) (xo_val (x_c (ea := eI) (v := 4) rfl)) okf) rfl))
          · refine xb_weak (L' := [(some (some (eX s_3))), (some (some (eA value))), (some (some ((eL eA) odd))), (some (some (eI q.1))), (some (some (eI q.2.1)))]) ?_ ⟨rfl, rfl, rfl, rfl, rfl, trivial⟩
            exact (xs_ret (L := (fun s_ => [(some (some (eX s_))), (some (some (eA value))), (some (some ((eL eA) odd))), (some (some (eI q.1))), (some (some (eI q.2.1)))])) (ea := eA) (t := (thn2 (thn2 (lif (sliceD none (some q.1) value)) fun x_11 => thn2 (thn2 (thn2 (lif (itemD (eA value) (eI q.1))) fun x_8 => rec_ x_8 odd) fun x_10 => fun s_ => some ((x_10), s_)) fun x_12 => lif (addD (eA x_11) ((eTu (f1 eA)) x_12))) fun x_13 => thn2 (lif (sliceD (some (q.1 + 1)) none value)) fun x_14 => lif (addD (eA x_13) (eA x_14)))) (k := (fun v_ s_ => (v_, s_))) (fun _ _ _ h_ => rvs_ok h_ rfl rfl) (xs_cv (t' := (thn2 (thn2 (lif (sliceD none (some q.1) value)) fun x_11 => thn2 (thn2 (thn2 (lif (itemD (eA value) (eI q.1))) fun x_8 => rec_ x_8 odd) fun x_10 => fun s_ => some ((x_10), s_)) fun x_12 => lif (addD (eA x_11) ((eTu (f1 eA)) x_12))) fun x_13 => thn2 (lif (sliceD (some (q.1 + 1)) none value)) fun x_14 => lif (addD (eA x_13) (eA x_14)))) (xs_bin (ea := eA) (eb := eA) (ec := eA) (f := (fun a_ b_ => addD (eA a_) (eA b_))) q_any2 (xso_val (si := 0) (xs_cv (t' := (thn2 (lif (sliceD none (some q.1) value)) fun x_11 => thn2 (thn2 (thn2 (lif (itemD (eA value) (eI q.1))) fun x_8 => rec_ x_8 odd) fun x_10 => fun s_ => some ((x_10), s_)) fun x_12 => lif (addD (eA x_11) ((eTu (f1 eA)) x_12)))) (xs_bin (ea := eA) (eb := (eTu (f1 eA))) (ec := eA) (f := (fun a_ b_ => addD (eA a_) ((eTu (f1 eA)) b_))) q_any2 (xso_val (si := 0) (xs_pure (t := sliceD none (some q.1) value) fun s_ => (x_cv (t' := sliceD none (some q.1) value) (x_slA (xo_val (x_var (ea := eA) (v := value) rfl)) xq_none (xq_cv (t' := some (some q.1)) (xq_some (x_var (ea := eI) (v := q.1) rfl)) rfl) okf) (by first | with_reducible rfl | simp -implicitDefEqProofs only [Option.map_eq_bind, Option.bind_assoc, Option.bind_some, Function.comp_def] | rfl)))) (xso_val (si := 0) (xs_cv (t' := (thn2 (thn2 (lif (itemD (eA value) (eI q.1))) fun x_8 => rec_ x_8 odd) fun x_10 => fun s_ => some ((x_10), s_))) (xs_up (ea := (eTu (fC eA f0))) (eb := (eTu (f1 eA))) (fun x_ => (x_.1)) (fun _ => rfl) (xs_tup (xsa_cv (t' := (thn2 (thn2 (lif (itemD (eA value) (eI q.1))) fun x_8 => rec_ x_8 odd) fun x_9 => fun s_ => some ((x_9, ()), s_))) (xsa_cons (o1 := false) (o2 := false) (xso_val (si := 0) (xs_cv (t' := (thn2 (lif (itemD (eA value) (eI q.1))) fun x_8 => rec_ x_8 odd)) (xs_callS (f := (fun (p_ : PyData × (List PyData) × Unit) s_ => rec_ p_.1 p_.2.1 s_)) k_rec_ (fun _ => rfl) (fun _ _ => rfl) (xsa_cons (o1 := false) (o2 := false) (xso_val (si := 0) (xs_pure (t := itemD (eA value) (eI q.1)) fun s_ => (x_binT (ea := eA) (eb := eI) (ec := eA) (f := (fun a_ b_ => itemD (eA a_) (eI b_))) (a := value) (b := q.1) q_any2 (xo_val (x_var (ea := eA) (v := value) rfl)) (xo_val (x_var (ea := eI) (v := q.1) rfl)) okf))) (xsa_cons (o1 := false) (o2 := false) (xso_val (si := 0) (xs_cv (t' := (fun s_ => some (odd, s_))) (xs_pure (t := (some odd)) fun s_ => (x_var (ea := (eL eA)) (v := odd) rfl)) rfl)) (xsa_nil (si := 0)))) okk) (by first | with_reducible rfl | (funext s_; simp -implicitDefEqProofs only [thn2, lif, Option.map_eq_bind, Option.bind_assoc, Option.bind_some, Function.comp_def]) | rfl))) (xsa_nil (si := 0))) (by first | with_reducible rfl | (funext s_; simp -implicitDefEqProofs only [thn2, lif, Option.map_eq_bind, Option.bind_assoc, Option.bind_some, Function.comp_def]) | rfl)) (fun _ => (by decide : 1 ≤ 1000)))) (by first | with_reducible rfl | (funext s_; simp -implicitDefEqProofs only [thn2, lif, Option.map_eq_bind, Option.bind_assoc, Option.bind_some, Function.comp_def]) | rfl))) okf) (by first | with_reducible rfl | (funext s_; simp -implicitDefEqProofs only [thn2, lif, Option.map_eq_bind, Option.bind_assoc, Option.bind_some, Function.comp_def]) | rfl))) (xso_val (si := 0) (xs_pure (t := sliceD (some (q.1 + 1)) none value) fun s_ => (x_cv (t' := sliceD (some (q.1 + 1)) none value) (x_slA (xo_val (x_var (ea := eA) (v := value) rfl)) (xq_cv (t' := some (some (q.1 + 1))) (xq_some (x_cv (t' := some (q.1 + 1)) (x_bin (ea := eI) (eb := eI) (ec := eI) (f := (fun a_ b_ => some ((a_ + b_)))) q_add (xo_val (x_var (ea := eI) (v := q.1) rfl)) (xo_val (x_c (ea := eI) (v := 1) rfl)) okf) rfl)) rfl) xq_none okf) (by first | with_reducible rfl | simp -implicitDefEqProofs only [Option.map_eq_bind, Option.bind_assoc, Option.bind_some, Function.comp_def] | rfl)))) okf) (by first | with_reducible rfl | (funext s_; simp -implicitDefEqProofs only [thn2, lif, Option.map_eq_bind, Option.bind_assoc, Option.bind_some, Function.comp_def]) | rfl)))
          · refine xb_weak (L' := [(some (some (eX s_3))), (some (some (eA value))), (some (some ((eL eA) odd))), (some (some (eI q.1))), (some (some (eI q.2.1)))]) ?_ ⟨rfl, rfl, rfl, rfl, rfl, trivial⟩
            exact (xs_ret (L := (fun s_ => [(some (some (eX s_))), (some (some (eA value))), (some (some ((eL eA) odd))), (some (some (eI q.1))), (some (some (eI q.2.1)))])) (ea := eA) (t := (thn2 (lif (Option.bind (Option.bind (sliceD none (some q.1) value) fun x_15 => Option.bind (sliceD (some (q.1 + 1)) none value) fun x_16 => addD (eA x_15) (eA x_16)) fun x_23 => Option.bind (Option.bind (sliceD none (some (q.1 + 1)) value) fun x_17 => Option.bind (sliceD (some q.1) none value) fun x_18 => addD (eA x_17) (eA x_18)) fun x_24 => Option.bind (revTD none value) fun x_25 => Option.bind (listD [value]) fun x_26 => some ([x_23, x_24, x_25, x_26]))) fun p_ => ofT p_)) (k := (fun v_ s_ => (v_, s_))) (fun _ _ _ h_ => rvs_ok h_ rfl rfl) (xs_cv (t' := (thn2 (lif (Option.bind (Option.bind (sliceD none (some q.1) value) fun x_15 => Option.bind (sliceD (some (q.1 + 1)) none value) fun x_16 => addD (eA x_15) (eA x_16)) fun x_23 => Option.bind (Option.bind (sliceD none (some (q.1 + 1)) value) fun x_17 => Option.bind (sliceD (some q.1) none value) fun x_18 => addD (eA x_17) (eA x_18)) fun x_24 => Option.bind (revTD none value) fun x_25 => Option.bind (listD [value]) fun x_26 => some ([x_23, x_24, x_25, x_26]))) fun p_ => ofT p_)) (xs_callS (f := fun (p_ : (List PyData) × Unit) s_ => ofT p_.1 s_) (k__law_ofL (ea := eA)) (fun _ => rfl) (fun _ _ => rfl) (xsa_cons (o1 := false) (o2 := false) (xso_val (si := 0) (xs_pure (t := (Option.bind (Option.bind (sliceD none (some q.1) value) fun x_15 => Option.bind (sliceD (some (q.1 + 1)) none value) fun x_16 => addD (eA x_15) (eA x_16)) fun x_23 => Option.bind (Option.bind (sliceD none (some (q.1 + 1)) value) fun x_17 => Option.bind (sliceD (some q.1) none value) fun x_18 => addD (eA x_17) (eA x_18)) fun x_24 => Option.bind (revTD none value) fun x_25 => Option.bind (listD [value]) fun x_26 => some ([x_23, x_24, x_25, x_26]))) fun s_ => (x_cv (t' := (Option.bind (Option.bind (sliceD none (some q.1) value) fun x_15 => Option.bind (sliceD (some (q.1 + 1)) none value) fun x_16 => addD (eA x_15) (eA x_16)) fun x_23 => Option.bind (Option.bind (sliceD none (some (q.1 + 1)) value) fun x_17 => Option.bind (sliceD (some q.1) none value) fun x_18 => addD (eA x_17) (eA x_18)) fun x_24 => Option.bind (revTD none value) fun x_25 => Option.bind (listD [value]) fun x_26 => some ([x_23, x_24, x_25, x_26]))) (x_up (ea := (fun p_ => PyData.list ((fC eA (fC eA (fC eA (fC eA f0)))) p_))) (eb := (eL eA)) (fun x_ => [x_.1, x_.2.1, x_.2.2.1, x_.2.2.2.1]) (fun _ => rfl) (x_lst (xa_cv (t' := (Option.bind (Option.bind (sliceD none (some q.1) value) fun x_15 => Option.bind (sliceD (some (q.1 + 1)) none value) fun x_16 => addD (eA x_15) (eA x_16)) fun x_19 => Option.bind (Option.bind (sliceD none (some (q.1 + 1)) value) fun x_17 => Option.bind (sliceD (some q.1) none value) fun x_18 => addD (eA x_17) (eA x_18)) fun x_20 => Option.bind (revTD none value) fun x_21 => Option.bind (listD [value]) fun x_22 => some ((x_19, x_20, x_21, x_22, ())))) (xa_cons (o1 := false) (o2 := false) (xo_val (x_cv (t' := (Option.bind (sliceD none (some q.1) value) fun x_15 => Option.bind (sliceD (some (q.1 + 1)) none value) fun x_16 => addD (eA x_15) (eA x_16))) (x_bin (ea := eA) (eb := eA) (ec := eA) (f := (fun a_ b_ => addD (eA a_) (eA b_))) q_any2 (xo_val (x_cv (t' := sliceD none (some q.1) value) (x_slA (xo_val (x_var (ea := eA) (v := value) rfl)) xq_none (xq_cv (t' := some (some q.1)) (xq_some (x_var (ea := eI) (v := q.1) rfl)) rfl) okf) (by first | with_reducible rfl | simp -implicitDefEqProofs only [Option.map_eq_bind, Option.bind_assoc, Option.bind_some, Function.comp_def] | rfl))) (xo_val (x_cv (t' := sliceD (some (q.1 + 1)) none value) (x_slA (xo_val (x_var (ea := eA) (v := value) rfl)) (xq_cv (t' := some (some (q.1 + 1))) (xq_some (x_cv (t' := some (q.1 + 1)) (x_bin (ea := eI) (eb := eI) (ec := eI) (f := (fun a_ b_ => some ((a_ + b_)))) q_add (xo_val (x_var (ea := eI) (v := q.1) rfl)) (xo_val (x_c (ea := eI) (v := 1) rfl)) okf) rfl)) rfl) xq_none okf) (by first | with_reducible rfl | simp -implicitDefEqProofs only [Option.map_eq_bind, Option.bind_assoc, Option.bind_some, Function.comp_def] | rfl))) okf) (by first | with_reducible rfl | simp -implicitDefEqProofs only [Option.map_eq_bind, Option.bind_assoc, Option.bind_some, Function.comp_def] | rfl))) (xa_cons (o1 := false) (o2 := false) (xo_val (x_cv (t' := (Option.bind (sliceD none (some (q.1 + 1)) value) fun x_17 => Option.bind (sliceD (some q.1) none value) fun x_18 => addD (eA x_17) (eA x_18))) (x_bin (ea := eA) (eb := eA) (ec := eA) (f := (fun a_ b_ => addD (eA a_) (eA b_))) q_any2 (xo_val (x_cv (t' := sliceD none (some (q.1 + 1)) value) (x_slA (xo_val (x_var (ea := eA) (v := value) rfl)) xq_none (xq_cv (t' := some (some (q.1 + 1))) (xq_some (x_cv (t' := some (q.1 + 1)) (x_bin (ea := eI) (eb := eI) (ec := eI) (f := (fun a_ b_ => some ((a_ + b_)))) q_add (xo_val (x_var (ea := eI) (v := q.1) rfl)) (xo_val (x_c (ea := eI) (v := 1) rfl)) okf) rfl)) rfl) okf) (by first | with_reducible rfl | simp -implicitDefEqProofs only [Option.map_eq_bind, Option.bind_assoc, Option.bind_some, Function.comp_def] | rfl))) (xo_val (x_cv (t' := sliceD (some q.1) none value) (x_slA (xo_val (x_var (ea := eA) (v := value) rfl)) (xq_cv (t' := some (some q.1)) (xq_some (x_var (ea := eI) (v := q.1) rfl)) rfl) xq_none okf) (by first | with_reducible rfl | simp -implicitDefEqProofs only [Option.map_eq_bind, Option.bind_assoc, Option.bind_some, Function.comp_def] | rfl))) okf) (by first | with_reducible rfl | simp -implicitDefEqProofs only [Option.map_eq_bind, Option.bind_assoc, Option.bind_some, Function.comp_def] | rfl))) (xa_cons (o1 := false) (o2 := false) (xo_val (x_cv (t' := revTD none value) (x_revTA (xo_val (x_var (ea := eA) (v := value) rfl)) xq_none) (by first | with_reducible rfl | simp -implicitDefEqProofs only [Option.map_eq_bind, Option.bind_assoc, Option.bind_some, Function.comp_def] | rfl))) (xa_cons (o1 := false) (o2 := false) (xo_val (x_callBT (ec := eA) (f := (fun (p_ : PyData × Unit) => listD [p_.1])) (p := (value, ())) (q_anyB (ea := eA) (g := listD)) (xa_cv (t' := some (value, ())) (xa_cons (o1 := false) (o2 := false) (xo_val (x_var (ea := eA) (v := value) rfl)) xa_nil) rfl) okf)) xa_nil)))) (by first | with_reducible rfl | simp -implicitDefEqProofs only [Option.map_eq_bind, Option.bind_assoc, Option.bind_some, Function.comp_def] | rfl)) (fun _ => (by decide : 4 ≤ 1000)))) (by first | with_reducible rfl | simp -implicitDefEqProofs only [Option.map_eq_bind, Option.bind_assoc, Option.bind_some, Function.comp_def] | rfl)))) (xsa_nil (si := 0))) okk) (by first | with_reducible rfl | (funext s_; simp -implicitDefEqProofs only [thn2, lif, Option.map_eq_bind, Option.bind_assoc, Option.bind_some, Function.comp_def]) | rfl))))
theorem k__law_near (n : Nat) : FTS (recM ms_law_near n) 2 (fC eA (fC (eL eA) f0)) eA (fun p_ s_ => t_law_near n p_.1 p_.2.1 s_) := fts_recN (fun _ _ => rfl) (fun n m h => ks__law_near m (t_law_near n) h) n
def l0_law (odd : (List PyData)) (q : ((List (Int × Int)) × (List (Int × Int)) × (List (Int × Int)) × Unit)) (st_1 : (Src × (List PyData))) (y_3 : Int) : Option (Src × (List PyData)) := drw ((t_law_near 8 ((eT (eTu (fC eI (f1 eI)))) q.1) odd) st_1.1) fun x_41 s_3 => Option.bind (appT st_1.2 x_41) fun values_1 => some (s_3, values_1)
def l1_law  (st_3 : Unit) (y_4 : PyData) : Option (Ctl Bool Unit) := Option.bind (reprT (eA y_4)) fun shown => Option.bind (Option.bind (Option.bind (Option.bind (t_is_power_sum y_4) fun x_42 => reprT (eB x_42)) fun x_44 => Option.bind (Option.bind (t_law_is_sum y_4) fun x_43 => reprT (eB x_43)) fun x_45 => some ((!decide (x_44 = x_45)))) fun x_ => if x_ = true then some true else (Option.bind (reprT (eA y_4)) fun x_46 => some ((!decide (x_46 = shown))))) fun b_ => if b_ = true then (some (Ctl.rt false)) else (some (Ctl.nx ()))
def l2_law (odd : (List PyData)) (st : (Src)) (y : Int) : Option (Ctl Bool (Src)) := drw ((thn2 (t_law_sum 5 12) fun x_2 => thn2 (t_law_sum 4 9) fun x_3 => thn2 (t_law_sum 3 1000) fun x_4 => fun s_ => some ((x_2, x_3, x_4, ()), s_)) st) fun q s => drw ((thn2 (lif (reprT ((eL (eT (eTu (fC eI (f1 eI))))) ([q.1, q.2.1, q.2.2.1])))) fun x_6 => thn2 (thn2 (pickT 9) fun x_5 => fun s_ => some ((x_5 - 4), s_)) fun x_7 => fun s_ => some ((x_6, x_7, ()), s_)) s) fun q_1 s_1 => Option.bind (Option.bind (Option.bind (t_added_powers q.1 q.2.1 q_1.2.1) fun x_8 => reprT ((eT (eTu (fC eI (f1 eI)))) x_8)) fun x_10 => Option.bind (Option.bind (t_law_added q.1 q.2.1 q_1.2.1) fun x_9 => reprT ((eT (eTu (fC eI (f1 eI)))) x_9)) fun x_11 => some ((!decide (x_10 = x_11)))) fun b_ => if b_ = true then (some (Ctl.rt false)) else Option.bind (t_law_times q.1 q.2.1) fun both => Option.bind (Option.bind (Option.bind (Option.bind (t_multiplied_powers q.1 q.2.1) fun x_12 => reprT ((eT (eTu (fC eI (f1 eI)))) x_12)) fun x_13 => Option.bind (reprT ((eT (eTu (fC eI (f1 eI)))) both)) fun x_14 => some ((!decide (x_13 = x_14)))) fun x_ => if x_ = true then some true else (Option.bind (t_multiplied_powers q.2.1 q.1) fun x_15 => some ((!decide (x_15 = both))))) fun b_ => if b_ = true then (some (Ctl.rt false)) else Option.bind (Option.bind (t_multiplied_powers both q.2.2.1) fun x_18 => Option.bind (Option.bind (t_multiplied_powers q.2.1 q.2.2.1) fun x_17 => t_multiplied_powers q.1 x_17) fun x_19 => some ((!decide (x_18 = x_19)))) fun b_ => if b_ = true then (some (Ctl.rt false)) else Option.bind (Option.bind (compG (fun (y_1 : (Int × Int)) => (some true)) (fun (y_1 : (Int × Int)) => (some ((0 - y_1.1), y_1.2))) (revT q.1 none)) fun x_20 => some (x_20)) fun turned => Option.bind (Option.bind (Option.bind (Option.bind (t_turned_powers q.1) fun x_21 => reprT ((eT (eTu (fC eI (f1 eI)))) x_21)) fun x_22 => Option.bind (reprT ((eT (eTu (fC eI (f1 eI)))) turned)) fun x_23 => some ((!decide (x_22 = x_23)))) fun x_ => if x_ = true then some true else (Option.bind (t_turned_powers both) fun x_26 => Option.bind (Option.bind (t_turned_powers q.2.1) fun x_25 => t_law_times turned x_25) fun x_27 => some ((!decide (x_26 = x_27))))) fun b_ => if b_ = true then (some (Ctl.rt false)) else Option.bind (Option.bind (compG (fun (y_2 : (Int × Int)) => (some true)) (fun (y_2 : (Int × Int)) => (some y_2.2)) q.1) fun x_28 => some ((List.sum x_28))) fun total => Option.bind (Option.bind (Option.bind (Option.bind (t_sum_at_one q.1) fun x_29 => reprT (eI x_29)) fun x_30 => Option.bind (reprT (eI total)) fun x_31 => some ((!decide (x_30 = x_31)))) fun x_ => if x_ = true then some true else (Option.bind (t_sum_at_one both) fun x_33 => Option.bind (Option.bind (t_sum_at_one q.2.1) fun x_32 => mulT total x_32) fun x_34 => some ((!decide (x_33 = x_34))))) fun b_ => if b_ = true then (some (Ctl.rt false)) else drw ((pickT 13) s_1) fun many s_2 => Option.bind (Option.bind (Option.bind (t_loops_taken many) fun x_35 => reprT ((eT (eTu (fC eI (f1 eI)))) x_35)) fun x_37 => Option.bind (Option.bind (t_law_loops many) fun x_36 => reprT ((eT (eTu (fC eI (f1 eI)))) x_36)) fun x_38 => some ((!decide (x_37 = x_38)))) fun b_ => if b_ = true then (some (Ctl.rt false)) else Option.bind (Option.bind (Option.map (eT (eTu (fC eI (f1 eI)))) (catT q.1 q.1)) fun x_40 => some ([((eT (eTu (fC eI (f1 eI)))) q.1), ((eL (eTu (fC eI (f1 eI)))) q.1), ((eT (eTu (fC eI (f1 eI)))) (revT q.1 none)), x_40, (eN ()), ((eT eI) ([] : (List Int))), ((eTu (f1 (eTu (fC eI (f1 eI))))) ((0, 0))), ((eTu (f1 (eTu (fC eI (f1 eB))))) ((0, true))), ((eTu (f1 (eTu (fC eS (f1 eI))))) ((("0" : Str), 1)))])) fun values => Option.bind (α := (Src × (List PyData))) (Option.bind (rng1T 6) fun x_ => forP (l0_law odd q) x_ (s_2, values)) fun st_2 => Option.bind (Option.bind (some st_2.2) fun x_ => forC l1_law x_ ()) (ctlK (σ := Unit) (fun v_ => Ctl.rt v_) (fun _ => none) (fun _ => none) fun st_4 => Option.bind (Option.bind (reprT ((eL (eT (eTu (fC eI (f1 eI))))) ([q.1, q.2.1, q.2.2.1]))) fun x_47 => some ((!decide (x_47 = q_1.1)))) fun b_ => if b_ = true then (some (Ctl.rt false)) else (some (Ctl.nx (st_2.1))))
def t_law (script : (List Int)) : Option Bool := Option.bind (sourceT script) fun source => Option.bind (Option.bind (Option.map eI (powT 10 20)) fun x_1 => some ([(eN ()), (eB true), (eI 0), (eI 1), (eI (-1)), (eS ("0" : Str)), ((eT eI) ([] : (List Int))), ((eTu (f1 eI)) (0)), ((eTu (fC eI (f1 eI))) (0, 0)), ((eTu (fC eI (f1 eI))) (3, 1)), ((eL eI) ([0])), (PyData.dict []), x_1])) fun odd => Option.bind (Option.bind (rng1T 5) fun x_ => forC (l2_law odd) x_ (source)) (ctlK (σ := (Src)) (fun v_ => v_) (fun _ => none) (fun _ => none) fun st_5 => (if (decide (([((-2), (-1)), ((2), (-1))]) = ([((-2), (-1)), (2, (-1))]))) = true then (Option.bind (t_loops_taken 2) fun x_48 => some ((decide (x_48 = ([((-4), 1), (0, 2), (4, 1)]))))) else some false))
theorem k_law : FT m_law 1 (fC (eL eI) f0) eB (fun p_ => t_law p_.1) :=
  ft_ofK rfl (fun _ => rfl) rfl (by decide) (fun (script, ()) => by
    unfold t_law
    refine xb_weak (L' := [(some (some ((eL eI) script))), (some none), (some none), (some none), (some none), (some none), (some none), (some none), (some none), (some none), (some none), (some none), (some none), (some none), (some none), (some none), (some none), (some none), (some none)]) ?_ ⟨rfl, rfl, rfl, rfl, rfl, rfl, rfl, rfl, rfl, rfl, rfl, rfl, rfl, rfl, rfl, rfl, rfl, rfl, rfl, trivial⟩
    refine xb_asg (ea := eX) ?_ (fun source => xg_nm) fun source => ?_
    · exact (x_callT (f := (fun (p_ : (List Int) × Unit) => sourceT p_.1)) (p := (script, ())) k__law_source (xa_cv (t' := some (script, ())) (xa_cons (o1 := false) (o2 := false) (xo_val (x_var (ea := (eL eI)) (v := script) rfl)) xa_nil) rfl) okk)
    · refine xb_weak (L' := [(some (some ((eL eI) script))), (some (some (eX source))), (some none), (some none), (some none), (some none), (some none), (some none), (some none), (some none), (some none), (some none), (some none), (some none), (some none), (some none), (some none), (some none), (some none)]) ?_ ⟨rfl, rfl, rfl, rfl, rfl, rfl, rfl, rfl, rfl, rfl, rfl, rfl, rfl, rfl, rfl, rfl, rfl, rfl, rfl, trivial⟩
      refine xb_asg (ea := (eL eA)) ?_ (fun odd => xg_nm) fun odd => ?_
      · exact (x_cv (t' := (Option.bind (Option.map eI (powT 10 20)) fun x_1 => some ([(eN ()), (eB true), (eI 0), (eI 1), (eI (-1)), (eS ("0" : Str)), ((eT eI) ([] : (List Int))), ((eTu (f1 eI)) (0)), ((eTu (fC eI (f1 eI))) (0, 0)), ((eTu (fC eI (f1 eI))) (3, 1)), ((eL eI) ([0])), (PyData.dict []), x_1]))) (x_up (ea := (fun p_ => PyData.list ((fC eA (fC eA (fC eA (fC eA (fC eA (fC eA (fC eA (fC eA (fC eA (fC eA (fC eA (fC eA (fC eA f0))))))))))))) p_))) (eb := (eL eA)) (fun x_ => [x_.1, x_.2.1, x_.2.2.1, x_.2.2.2.1, x_.2.2.2.2.1, x_.2.2.2.2.2.1, x_.2.2.2.2.2.2.1, x_.2.2.2.2.2.2.2.1, x_.2.2.2.2.2.2.2.2.1, x_.2.2.2.2.2.2.2.2.2.1, x_.2.2.2.2.2.2.2.2.2.2.1, x_.2.2.2.2.2.2.2.2.2.2.2.1, x_.2.2.2.2.2.2.2.2.2.2.2.2.1]) (fun _ => rfl) (x_lst (xa_cv (t' := (Option.bind (Option.map eI (powT 10 20)) fun x => some (((eN ()), (eB true), (eI 0), (eI 1), (eI (-1)), (eS ("0" : Str)), ((eT eI) ([] : (List Int))), ((eTu (f1 eI)) (0)), ((eTu (fC eI (f1 eI))) (0, 0)), ((eTu (fC eI (f1 eI))) (3, 1)), ((eL eI) ([0])), (PyData.dict []), x, ())))) (xa_cons (o1 := false) (o2 := false) (xo_val (x_cv (t' := some (eN ())) (x_up (ea := eN) (eb := eA) eN (fun _ => rfl) (x_c (ea := eN) (v := ()) rfl)) rfl)) (xa_cons (o1 := false) (o2 := false) (xo_val (x_cv (t' := some (eB true)) (x_up (ea := eB) (eb := eA) eB (fun _ => rfl) (x_c (ea := eB) (v := true) rfl)) rfl)) (xa_cons (o1 := false) (o2 := false) (xo_val (x_cv (t' := some (eI 0)) (x_up (ea := eI) (eb := eA) eI (fun _ => rfl) (x_c (ea := eI) (v := 0) rfl)) rfl)) (xa_cons (o1 := false) (o2 := false) (xo_val (x_cv (t' := some (eI 1)) (x_up (ea := eI) (eb := eA) eI (fun _ => rfl) (x_c (ea := eI) (v := 1) rfl)) rfl)) (xa_cons (o1 := false) (o2 := false) (xo_val (x_cv (t' := some (eI (-1))) (x_up (ea := eI) (eb := eA) eI (fun _ => rfl) (x_cv (t' := some (-1)) (x_un (ea := eI) (ec := eI) (f := fun a_ => some (-a_)) q_neg (xo_val (x_c (ea := eI) (v := 1) rfl)) okf) rfl)) rfl)) (xa_cons (o1 := false) (o2 := false) (xo_val (x_cv (t' := some (eS ("0" : Str))) (x_up (ea := eS) (eb := eA) eS (fun _ => rfl) (x_c (ea := eS) (v := "0") rfl)) rfl)) (xa_cons (o1 := false) (o2 := false) (xo_val (x_cv (t' := some ((eT eI) ([] : (List Int)))) (x_up (ea := (eT eI)) (eb := eA) (eT eI) (fun _ => rfl) (x_cv (t' := some ([] : (List Int))) (x_up (ea := (eTu f0)) (eb := (eT eI)) (fun x_ => []) (fun _ => rfl) (x_tup (xa_cv (t' := some (())) xa_nil rfl) (fun _ => (by decide : 0 ≤ 1000)))) rfl)) rfl)) (xa_cons (o1 := false) (o2 := false) (xo_val (x_cv (t' := some ((eTu (f1 eI)) (0))) (x_up (ea := (eTu (f1 eI))) (eb := eA) (eTu (f1 eI)) (fun _ => rfl) (x_cv (t' := some (0)) (x_up (ea := (eTu (fC eI f0))) (eb := (eTu (f1 eI))) (fun x_ => (x_.1)) (fun _ => rfl) (x_tup (xa_cv (t' := some (0, ())) (xa_cons (o1 := false) (o2 := false) (xo_val (x_c (ea := eI) (v := 0) rfl)) xa_nil) rfl) (fun _ => (by decide : 1 ≤ 1000)))) rfl)) rfl)) (xa_cons (o1 := false) (o2 := false) (xo_val (x_cv (t' := some ((eTu (fC eI (f1 eI))) (0, 0))) (x_up (ea := (eTu (fC eI (f1 eI)))) (eb := eA) (eTu (fC eI (f1 eI))) (fun _ => rfl) (x_cv (t' := some (0, 0)) (x_up (ea := (eTu (fC eI (fC eI f0)))) (eb := (eTu (fC eI (f1 eI)))) (fun x_ => (x_.1, x_.2.1)) (fun _ => rfl) (x_tup (xa_cv (t' := some (0, 0, ())) (xa_cons (o1 := false) (o2 := false) (xo_val (x_c (ea := eI) (v := 0) rfl)) (xa_cons (o1 := false) (o2 := false) (xo_val (x_c (ea := eI) (v := 0) rfl)) xa_nil)) rfl) (fun _ => (by decide : 2 ≤ 1000)))) rfl)) rfl)) (xa_cons (o1 := false) (o2 := false) (xo_val (x_cv (t' := some ((eTu (fC eI (f1 eI))) (3, 1))) (x_up (ea := (eTu (fC eI (f1 eI)))) (eb := eA) (eTu (fC eI (f1 eI))) (fun _ => rfl) (x_cv (t' := some (3, 1)) (x_up (ea := (eTu (fC eI (fC eI f0)))) (eb := (eTu (fC eI (f1 eI)))) (fun x_ => (x_.1, x_.2.1)) (fun _ => rfl) (x_tup (xa_cv (t' := some (3, 1, ())) (xa_cons (o1 := false) (o2 := false) (xo_val (x_c (ea := eI) (v := 3) rfl)) (xa_cons (o1 := false) (o2 := false) (xo_val (x_c (ea := eI) (v := 1) rfl)) xa_nil)) rfl) (fun _ => (by decide : 2 ≤ 1000)))) rfl)) rfl)) (xa_cons (o1 := false) (o2 := false) (xo_val (x_cv (t' := some ((eL eI) ([0]))) (x_up (ea := (eL eI)) (eb := eA) (eL eI) (fun _ => rfl) (x_cv (t' := some ([0])) (x_up (ea := (fun p_ => PyData.list ((fC eI f0) p_))) (eb := (eL eI)) (fun x_ => [x_.1]) (fun _ => rfl) (x_lst (xa_cv (t' := some (0, ())) (xa_cons (o1 := false) (o2 := false) (xo_val (x_c (ea := eI) (v := 0) rfl)) xa_nil) rfl) (fun _ => (by decide : 1 ≤ 1000)))) rfl)) rfl)) (xa_cons (o1 := false) (o2 := false) (xo_val (x_c (ea := eA) (v := PyData.dict []) rfl)) (xa_cons (o1 := false) (o2 := false) (xo_val (x_cv (t' := (Option.map eI (powT 10 20))) (x_up (ea := eI) (eb := eA) eI (fun _ => rfl) (x_binT (ea := eI) (eb := eI) (ec := eI) (f := (fun a_ b_ => powT a_ b_)) (a := 10) (b := 20) q_pow (xo_val (x_c (ea := eI) (v := 10) rfl)) (xo_val (x_c (ea := eI) (v := 20) rfl)) okf)) rfl)) xa_nil))))))))))))) (by first | with_reducible rfl | simp -implicitDefEqProofs only [Option.map_eq_bind, Option.bind_assoc, Option.bind_some, Function.comp_def] | rfl)) (fun _ => (by decide : 13 ≤ 1000)))) (by first | with_reducible rfl | simp -implicitDefEqProofs only [Option.map_eq_bind, Option.bind_assoc, Option.bind_some, Function.comp_def] | rfl))
      · refine xb_weak (L' := [(some (some ((eL eI) script))), (some (some (eX source))), (some (some ((eL eA) odd))), (some none), (some none), (some none), (some none), (some none), (some none), (some none), (some none), (some none), (some none), (some none), (some none), (some none), (some none), (some none), (some none)]) ?_ ⟨rfl, rfl, rfl, rfl, rfl, rfl, rfl, rfl, rfl, rfl, rfl, rfl, rfl, rfl, rfl, rfl, rfl, rfl, rfl, trivial⟩
        refine xb_thnC (σ := (Src)) (Rr := (RV 19 eB)) (env := (fun (st_ : (Src)) => [(some (some ((eL eI) script))), (some (some (eX st_))), (some (some ((eL eA) odd))), none, none, none, none, none, none, none, none, none, none, none, none, none, none, (some none), (some none)])) (kb := fun _ => none) (kc := fun _ => none) (k := (fun v_ => v_)) (fun _ _ h_ => h_) rv_nn (fun _ _ h_ => nomatch h_) (fun _ _ h_ => nomatch h_) ?_ fun st_5 => ?_
        · refine xb_forC (ea := eI) (env := (fun (st_ : (Src)) => [(some (some ((eL eI) script))), (some (some (eX st_))), (some (some ((eL eA) odd))), none, none, none, none, none, none, none, none, none, none, none, none, none, none, (some none), (some none)])) (f := (l2_law odd)) (s0 := (source)) (L := [(some (some ((eL eI) script))), (some (some (eX source))), (some (some ((eL eA) odd))), (some none), (some none), (some none), (some none), (some none), (some none), (some none), (some none), (some none), (some none), (some none), (some none), (some none), (some none), (some none), (some none)]) (Rr := (RV 19 eB)) rv_rt ?_ ⟨rfl, rfl, rfl, rfl, rfl, trivial⟩ (fun st y => xg_nm) (fun st y => ?_)
          · exact (xi2 (xi_rng1T (xa_cv (t' := some (5, ())) (xa_cons (o1 := false) (o2 := false) (xo_val (x_c (ea := eI) (v := 5) rfl)) xa_nil) rfl)))
          · unfold l2_law
            refine xb_weak (L' := [(some (some ((eL eI) script))), (some (some (eX st))), (some (some ((eL eA) odd))), (some (some (eI y))), none, none, none, none, none, none, none, none, none, none, none, none, none, (some none), (some none)]) ?_ ⟨rfl, rfl, rfl, rfl, rfl, rfl, trivial⟩
            refine xs_par (L := (fun s_ => [(some (some ((eL eI) script))), (some (some (eX s_))), (some (some ((eL eA) odd))), (some (some (eI y))), none, none, none, none, none, none, none, none, none, none, none, none, none, (some none), (some none)])) (fs := (fC (eT (eTu (fC eI (f1 eI)))) (fC (eT (eTu (fC eI (f1 eI)))) (fC (eT (eTu (fC eI (f1 eI)))) f0)))) (t := (thn2 (t_law_sum 5 12) fun x_2 => thn2 (t_law_sum 4 9) fun x_3 => thn2 (t_law_sum 3 1000) fun x_4 => fun s_ => some ((x_2, x_3, x_4, ()), s_))) ?_ fun q s => ?_
            · exact (xsm_cv (t' := (thn2 (t_law_sum 5 12) fun x_2 => thn2 (t_law_sum 4 9) fun x_3 => thn2 (t_law_sum 3 1000) fun x_4 => fun s_ => some ((x_2, x_3, x_4, ()), s_))) (xsm_cons (ea := (eT (eTu (fC eI (f1 eI))))) (xs_cv (t' := (t_law_sum 5 12)) (xs_callS (f := (fun (p_ : Int × Int × Unit) s_ => t_law_sum p_.1 p_.2.1 s_)) k__law_sum (fun _ => rfl) (fun _ _ => rfl) (xsa_cons (o1 := false) (o2 := false) (xso_val (si := 1) (xs_cv (t' := (fun s_ => some (5, s_))) (xs_pure (t := (some 5)) fun s_ => (x_c (ea := eI) (v := 5) rfl)) rfl)) (xsa_cons (o1 := false) (o2 := false) (xso_val (si := 1) (xs_cv (t' := (fun s_ => some (12, s_))) (xs_pure (t := (some 12)) fun s_ => (x_c (ea := eI) (v := 12) rfl)) rfl)) (xsa_nil (si := 1)))) okk) (by first | with_reducible rfl | (funext s_; simp -implicitDefEqProofs only [thn2, lif, Option.map_eq_bind, Option.bind_assoc, Option.bind_some, Function.comp_def]) | rfl)) (xsm_cons (ea := (eT (eTu (fC eI (f1 eI))))) (xs_cv (t' := (t_law_sum 4 9)) (xs_callS (f := (fun (p_ : Int × Int × Unit) s_ => t_law_sum p_.1 p_.2.1 s_)) k__law_sum (fun _ => rfl) (fun _ _ => rfl) (xsa_cons (o1 := false) (o2 := false) (xso_val (si := 1) (xs_cv (t' := (fun s_ => some (4, s_))) (xs_pure (t := (some 4)) fun s_ => (x_c (ea := eI) (v := 4) rfl)) rfl)) (xsa_cons (o1 := false) (o2 := false) (xso_val (si := 1) (xs_cv (t' := (fun s_ => some (9, s_))) (xs_pure (t := (some 9)) fun s_ => (x_c (ea := eI) (v := 9) rfl)) rfl)) (xsa_nil (si := 1)))) okk) (by first | with_reducible rfl | (funext s_; simp -implicitDefEqProofs only [thn2, lif, Option.map_eq_bind, Option.bind_assoc, Option.bind_some, Function.comp_def]) | rfl)) (xsm_cons (ea := (eT (eTu (fC eI (f1 eI))))) (xs_cv (t' := (t_law_sum 3 1000)) (xs_callS (f := (fun (p_ : Int × Int × Unit) s_ => t_law_sum p_.1 p_.2.1 s_)) k__law_sum (fun _ => rfl) (fun _ _ => rfl) (xsa_cons (o1 := false) (o2 := false) (xso_val (si := 1) (xs_cv (t' := (fun s_ => some (3, s_))) (xs_pure (t := (some 3)) fun s_ => (x_c (ea := eI) (v := 3) rfl)) rfl)) (xsa_cons (o1 := false) (o2 := false) (xso_val (si := 1) (xs_cv (t' := (fun s_ => some (1000, s_))) (xs_pure (t := (some 1000)) fun s_ => (x_c (ea := eI) (v := 1000) rfl)) rfl)) (xsa_nil (si := 1)))) okk) (by first | with_reducible rfl | (funext s_; simp -implicitDefEqProofs only [thn2, lif, Option.map_eq_bind, Option.bind_assoc, Option.bind_some, Function.comp_def]) | rfl)) xsm_nil))) (by first | with_reducible rfl | (funext s_; simp -implicitDefEqProofs only [thn2, lif, Option.map_eq_bind, Option.bind_assoc, Option.bind_some, Function.comp_def]) | rfl))
            · refine xb_weak (L' := [(some (some ((eL eI) script))), (some (some (eX s))), (some (some ((eL eA) odd))), (some (some (eI y))), none, none, none, none, none, none, none, (some (some ((eT (eTu (fC eI (f1 eI)))) q.1))), (some (some ((eT (eTu (fC eI (f1 eI)))) q.2.1))), (some (some ((eT (eTu (fC eI (f1 eI)))) q.2.2.1))), none, none, none, (some none), (some none)]) ?_ ⟨rfl, rfl, rfl, rfl, rfl, rfl, rfl, rfl, rfl, trivial⟩
              refine xs_par (L := (fun s_ => [(some (some ((eL eI) script))), (some (some (eX s_))), (some (some ((eL eA) odd))), (some (some (eI y))), none, none, none, none, none, none, none, (some (some ((eT (eTu (fC eI (f1 eI)))) q.1))), (some (some ((eT (eTu (fC eI (f1 eI)))) q.2.1))), (some (some ((eT (eTu (fC eI (f1 eI)))) q.2.2.1))), none, none, none, (some none), (some none)])) (fs := (fC eS (fC eI f0))) (t := (thn2 (lif (reprT ((eL (eT (eTu (fC eI (f1 eI))))) ([q.1, q.2.1, q.2.2.1])))) fun x_6 => thn2 (thn2 (pickT 9) fun x_5 => fun s_ => some ((x_5 - 4), s_)) fun x_7 => fun s_ => some ((x_6, x_7, ()), s_))) ?_ fun q_1 s_1 => ?_
              · exact (xsm_cv (t' := (thn2 (lif (reprT ((eL (eT (eTu (fC eI (f1 eI))))) ([q.1, q.2.1, q.2.2.1])))) fun x_6 => thn2 (thn2 (pickT 9) fun x_5 => fun s_ => some ((x_5 - 4), s_)) fun x_7 => fun s_ => some ((x_6, x_7, ()), s_))) (xsm_cons (ea := eS) (xs_pure (t := reprT ((eL (eT (eTu (fC eI (f1 eI))))) ([q.1, q.2.1, q.2.2.1]))) fun s_ => (x_callBT (ec := eS) (f := (fun (p_ : (List (List (Int × Int))) × Unit) => reprT ((eL (eT (eTu (fC eI (f1 eI))))) p_.1))) (p := ([q.1, q.2.1, q.2.2.1], ())) (q_repr (ea := (eL (eT (eTu (fC eI (f1 eI))))))) (xa_cv (t' := some (([q.1, q.2.1, q.2.2.1]), ())) (xa_cons (o1 := false) (o2 := false) (xo_val (x_cv (t' := some ([q.1, q.2.1, q.2.2.1])) (x_up (ea := (fun p_ => PyData.list ((fC (eT (eTu (fC eI (f1 eI)))) (fC (eT (eTu (fC eI (f1 eI)))) (fC (eT (eTu (fC eI (f1 eI)))) f0))) p_))) (eb := (eL (eT (eTu (fC eI (f1 eI)))))) (fun x_ => [x_.1, x_.2.1, x_.2.2.1]) (fun _ => rfl) (x_lst (xa_cv (t' := some (q.1, q.2.1, q.2.2.1, ())) (xa_cons (o1 := false) (o2 := false) (xo_val (x_var (ea := (eT (eTu (fC eI (f1 eI))))) (v := q.1) rfl)) (xa_cons (o1 := false) (o2 := false) (xo_val (x_var (ea := (eT (eTu (fC eI (f1 eI))))) (v := q.2.1) rfl)) (xa_cons (o1 := false) (o2 := false) (xo_val (x_var (ea := (eT (eTu (fC eI (f1 eI))))) (v := q.2.2.1) rfl)) xa_nil))) rfl) (fun _ => (by decide : 3 ≤ 1000)))) rfl)) xa_nil) rfl) okf)) (xsm_cons (ea := eI) (xs_cv (t' := (thn2 (pickT 9) fun x_5 => fun s_ => some ((x_5 - 4), s_))) (xs_bin (ea := eI) (eb := eI) (ec := eI) (f := (fun a_ b_ => some ((a_ - b_)))) q_sub (xso_val (si := 1) (xs_cv (t' := (pickT 9)) (xs_callS (f := (fun (p_ : Int × Unit) s_ => pickT p_.1 s_)) k__law_pick (fun _ => rfl) (fun _ _ => rfl) (xsa_cons (o1 := false) (o2 := false) (xso_val (si := 1) (xs_cv (t' := (fun s_ => some (9, s_))) (xs_pure (t := (some 9)) fun s_ => (x_c (ea := eI) (v := 9) rfl)) rfl)) (xsa_nil (si := 1))) okk) (by first | with_reducible rfl | (funext s_; simp -implicitDefEqProofs only [thn2, lif, Option.map_eq_bind, Option.bind_assoc, Option.bind_some, Function.comp_def]) | rfl))) (xso_val (si := 1) (xs_cv (t' := (fun s_ => some (4, s_))) (xs_pure (t := (some 4)) fun s_ => (x_c (ea := eI) (v := 4) rfl)) rfl)) okf) (by first | with_reducible rfl | (funext s_; simp -implicitDefEqProofs only [thn2, lif, Option.map_eq_bind, Option.bind_assoc, Option.bind_some, Function.comp_def]) | rfl)) xsm_nil)) (by first | with_reducible rfl | (funext s_; simp -implicitDefEqProofs only [thn2, lif, Option.map_eq_bind, Option.bind_assoc, Option.bind_some, Function.comp_def]) | rfl))
              · refine xb_weak (L' := [(some (some ((eL eI) script))), (some (some (eX s_1))), (some (some ((eL eA) odd))), (some (some (eI y))), none, none, none, none, none, none, none, (some (some ((eT (eTu (fC eI (f1 eI)))) q.1))), (some (some ((eT (eTu (fC eI (f1 eI)))) q.2.1))), (some (some ((eT (eTu (fC eI (f1 eI)))) q.2.2.1))), (some (some (eS q_1.1))), (some (some (eI q_1.2.1))), none, (some none), (some none)]) ?_ ⟨rfl, rfl, rfl, rfl, rfl, rfl, rfl, rfl, rfl, rfl, rfl, trivial⟩
                refine xb_ifG ?_ gone_ret ?_ ?_
                · exact (xt_test (x_cv (t' := (Option.bind (Option.bind (t_added_powers q.1 q.2.1 q_1.2.1) fun x_8 => reprT ((eT (eTu (fC eI (f1 eI)))) x_8)) fun x_10 => Option.bind (Option.bind (t_law_added q.1 q.2.1 q_1.2.1) fun x_9 => reprT ((eT (eTu (fC eI (f1 eI)))) x_9)) fun x_11 => some ((!decide (x_10 = x_11))))) (x_bin (ea := eS) (eb := eS) (ec := eB) (f := (fun a_ b_ => some ((!decide (a_ = b_))))) q_neS (xo_val (x_cv (t' := (Option.bind (t_added_powers q.1 q.2.1 q_1.2.1) fun x_8 => reprT ((eT (eTu (fC eI (f1 eI)))) x_8))) (x_callB (ec := eS) (f := (fun (p_ : (List (Int × Int)) × Unit) => reprT ((eT (eTu (fC eI (f1 eI)))) p_.1))) (q_repr (ea := (eT (eTu (fC eI (f1 eI)))))) (xa_cons (o1 := false) (o2 := false) (xo_val (x_callT (f := (fun (p_ : (List (Int × Int)) × (List (Int × Int)) × Int × Unit) => t_added_powers p_.1 p_.2.1 p_.2.2.1)) (p := (q.1, q.2.1, q_1.2.1, ())) k_added_powers (xa_cv (t' := some (q.1, q.2.1, q_1.2.1, ())) (xa_cons (o1 := false) (o2 := false) (xo_val (x_var (ea := (eT (eTu (fC eI (f1 eI))))) (v := q.1) rfl)) (xa_cons (o1 := false) (o2 := false) (xo_val (x_var (ea := (eT (eTu (fC eI (f1 eI))))) (v := q.2.1) rfl)) (xa_cons (o1 := false) (o2 := false) (xo_val (x_var (ea := eI) (v := q_1.2.1) rfl)) xa_nil))) rfl) okk)) xa_nil) okf) (by first | with_reducible rfl | simp -implicitDefEqProofs only [Option.map_eq_bind, Option.bind_assoc, Option.bind_some, Function.comp_def] | rfl))) (xo_val (x_cv (t' := (Option.bind (t_law_added q.1 q.2.1 q_1.2.1) fun x_9 => reprT ((eT (eTu (fC eI (f1 eI)))) x_9))) (x_callB (ec := eS) (f := (fun (p_ : (List (Int × Int)) × Unit) => reprT ((eT (eTu (fC eI (f1 eI)))) p_.1))) (q_repr (ea := (eT (eTu (fC eI (f1 eI)))))) (xa_cons (o1 := false) (o2 := false) (xo_val (x_callT (f := (fun (p_ : (List (Int × Int)) × (List (Int × Int)) × Int × Unit) => t_law_added p_.1 p_.2.1 p_.2.2.1)) (p := (q.1, q.2.1, q_1.2.1, ())) k__law_added (xa_cv (t' := some (q.1, q.2.1, q_1.2.1, ())) (xa_cons (o1 := false) (o2 := false) (xo_val (x_var (ea := (eT (eTu (fC eI (f1 eI))))) (v := q.1) rfl)) (xa_cons (o1 := false) (o2 := false) (xo_val (x_var (ea := (eT (eTu (fC eI (f1 eI))))) (v := q.2.1) rfl)) (xa_cons (o1 := false) (o2 := false) (xo_val (x_var (ea := eI) (v := q_1.2.1) rfl)) xa_nil))) rfl) okk)) xa_nil) okf) (by first | with_reducible rfl | simp -implicitDefEqProofs only [Option.map_eq_bind, Option.bind_assoc, Option.bind_some, Function.comp_def] | rfl))) okf) (by first | with_reducible rfl | simp -implicitDefEqProofs only [Option.map_eq_bind, Option.bind_assoc, Option.bind_some, Function.comp_def] | rfl)))
                · refine xb_weak (L' := [(some (some ((eL eI) script))), (some (some (eX s_1))), (some (some ((eL eA) odd))), (some (some (eI y))), none, none, none, none, none, none, none, (some (some ((eT (eTu (fC eI (f1 eI)))) q.1))), (some (some ((eT (eTu (fC eI (f1 eI)))) q.2.1))), (some (some ((eT (eTu (fC eI (f1 eI)))) q.2.2.1))), (some (some (eS q_1.1))), (some (some (eI q_1.2.1))), none, (some none), (some none)]) ?_ ⟨rfl, rfl, rfl, rfl, rfl, rfl, rfl, rfl, rfl, rfl, rfl, trivial⟩
                  exact (xb_cv (xb_ret (k := fun v_ => (Ctl.rt v_)) (rv_ok rfl) (XP.w (x_c (ea := eB) (v := false) rfl))) rfl)
                · refine xb_weak (L' := [(some (some ((eL eI) script))), (some (some (eX s_1))), (some (some ((eL eA) odd))), (some (some (eI y))), none, none, none, none, none, none, none, (some (some ((eT (eTu (fC eI (f1 eI)))) q.1))), (some (some ((eT (eTu (fC eI (f1 eI)))) q.2.1))), (some (some ((eT (eTu (fC eI (f1 eI)))) q.2.2.1))), (some (some (eS q_1.1))), (some (some (eI q_1.2.1))), none, (some none), (some none)]) ?_ ⟨rfl, rfl, rfl, rfl, rfl, rfl, rfl, rfl, rfl, rfl, rfl, trivial⟩
                  refine xb_asg (ea := (eT (eTu (fC eI (f1 eI))))) ?_ (fun both => xg_nm) fun both => ?_
                  · exact (x_callT (f := (fun (p_ : (List (Int × Int)) × (List (Int × Int)) × Unit) => t_law_times p_.1 p_.2.1)) (p := (q.1, q.2.1, ())) k__law_times (xa_cv (t' := some (q.1, q.2.1, ())) (xa_cons (o1 := false) (o2 := false) (xo_val (x_var (ea := (eT (eTu (fC eI (f1 eI))))) (v := q.1) rfl)) (xa_cons (o1 := false) (o2 := false) (xo_val (x_var (ea := (eT (eTu (fC eI (f1 eI))))) (v := q.2.1) rfl)) xa_nil)) rfl) okk)
                  · refine xb_weak (L' := [(some (some ((eL eI) script))), (some (some (eX s_1))), (some (some ((eL eA) odd))), (some (some (eI y))), (some (some ((eT (eTu (fC eI (f1 eI)))) both))), none, none, none, none, none, none, (some (some ((eT (eTu (fC eI (f1 eI)))) q.1))), (some (some ((eT (eTu (fC eI (f1 eI)))) q.2.1))), (some (some ((eT (eTu (fC eI (f1 eI)))) q.2.2.1))), (some (some (eS q_1.1))), (some (some (eI q_1.2.1))), none, (some none), (some none)]) ?_ ⟨rfl, rfl, rfl, rfl, rfl, rfl, rfl, rfl, rfl, rfl, rfl, rfl, trivial⟩
                    refine xb_ifG ?_ gone_ret ?_ ?_
                    · exact (xt_cv (t' := (Option.bind (Option.bind (Option.bind (t_multiplied_powers q.1 q.2.1) fun x_12 => reprT ((eT (eTu (fC eI (f1 eI)))) x_12)) fun x_13 => Option.bind (reprT ((eT (eTu (fC eI (f1 eI)))) both)) fun x_14 => some ((!decide (x_13 = x_14)))) fun x_ => if x_ = true then some true else (Option.bind (t_multiplied_powers q.2.1 q.1) fun x_15 => some ((!decide (x_15 = both)))))) (xt_or (xt_test (x_cv (t' := (Option.bind (Option.bind (t_multiplied_powers q.1 q.2.1) fun x_12 => reprT ((eT (eTu (fC eI (f1 eI)))) x_12)) fun x_13 => Option.bind (reprT ((eT (eTu (fC eI (f1 eI)))) both)) fun x_14 => some ((!decide (x_13 = x_14))))) (x_bin (ea := eS) (eb := eS) (ec := eB) (f := (fun a_ b_ => some ((!decide (a_ = b_))))) q_neS (xo_val (x_cv (t' := (Option.bind (t_multiplied_powers q.1 q.2.1) fun x_12 => reprT ((eT (eTu (fC eI (f1 eI)))) x_12))) (x_callB (ec := eS) (f := (fun (p_ : (List (Int × Int)) × Unit) => reprT ((eT (eTu (fC eI (f1 eI)))) p_.1))) (q_repr (ea := (eT (eTu (fC eI (f1 eI)))))) (xa_cons (o1 := false) (o2 := false) (xo_val (x_callT (f := (fun (p_ : (List (Int × Int)) × (List (Int × Int)) × Unit) => t_multiplied_powers p_.1 p_.2.1)) (p := (q.1, q.2.1, ())) k_multiplied_powers (xa_cv (t' := some (q.1, q.2.1, ())) (xa_cons (o1 := false) (o2 := false) (xo_val (x_var (ea := (eT (eTu (fC eI (f1 eI))))) (v := q.1) rfl)) (xa_cons (o1 := false) (o2 := false) (xo_val (x_var (ea := (eT (eTu (fC eI (f1 eI))))) (v := q.2.1) rfl)) xa_nil)) rfl) okk)) xa_nil) okf) (by first | with_reducible rfl | simp -implicitDefEqProofs only [Option.map_eq_bind, Option.bind_assoc, Option.bind_some, Function.comp_def] | rfl))) (xo_val (x_callBT (ec := eS) (f := (fun (p_ : (List (Int × Int)) × Unit) => reprT ((eT (eTu (fC eI (f1 eI)))) p_.1))) (p := (both, ())) (q_repr (ea := (eT (eTu (fC eI (f1 eI)))))) (xa_cv (t' := some (both, ())) (xa_cons (o1 := false) (o2 := false) (xo_val (x_var (ea := (eT (eTu (fC eI (f1 eI))))) (v := both) rfl)) xa_nil) rfl) okf)) okf) (by first | with_reducible rfl | simp -implicitDefEqProofs only [Option.map_eq_bind, Option.bind_assoc, Option.bind_some, Function.comp_def] | rfl))) (xt_test (x_cv (t' := (Option.bind (t_multiplied_powers q.2.1 q.1) fun x_15 => some ((!decide (x_15 = both))))) (x_bin (ea := (eT (eTu (fC eI (f1 eI))))) (eb := (eT (eTu (fC eI (f1 eI))))) (ec := eB) (f := (fun a_ b_ => some ((!decide (a_ = b_))))) (q_ne (eqT (eqTu (eqC eqI (eq1 eqI))))) (xo_val (x_callT (f := (fun (p_ : (List (Int × Int)) × (List (Int × Int)) × Unit) => t_multiplied_powers p_.1 p_.2.1)) (p := (q.2.1, q.1, ())) k_multiplied_powers (xa_cv (t' := some (q.2.1, q.1, ())) (xa_cons (o1 := false) (o2 := false) (xo_val (x_var (ea := (eT (eTu (fC eI (f1 eI))))) (v := q.2.1) rfl)) (xa_cons (o1 := false) (o2 := false) (xo_val (x_var (ea := (eT (eTu (fC eI (f1 eI))))) (v := q.1) rfl)) xa_nil)) rfl) okk)) (xo_val (x_var (ea := (eT (eTu (fC eI (f1 eI))))) (v := both) rfl)) okf) (by first | with_reducible rfl | simp -implicitDefEqProofs only [Option.map_eq_bind, Option.bind_assoc, Option.bind_some, Function.comp_def] | rfl)))) rfl)
                    · refine xb_weak (L' := [(some (some ((eL eI) script))), (some (some (eX s_1))), (some (some ((eL eA) odd))), (some (some (eI y))), (some (some ((eT (eTu (fC eI (f1 eI)))) both))), none, none, none, none, none, none, (some (some ((eT (eTu (fC eI (f1 eI)))) q.1))), (some (some ((eT (eTu (fC eI (f1 eI)))) q.2.1))), (some (some ((eT (eTu (fC eI (f1 eI)))) q.2.2.1))), (some (some (eS q_1.1))), (some (some (eI q_1.2.1))), none, (some none), (some none)]) ?_ ⟨rfl, rfl, rfl, rfl, rfl, rfl, rfl, rfl, rfl, rfl, rfl, rfl, trivial⟩
                      exact (xb_cv (xb_ret (k := fun v_ => (Ctl.rt v_)) (rv_ok rfl) (XP.w (x_c (ea := eB) (v := false) rfl))) rfl)
                    · refine xb_weak (L' := [(some (some ((eL eI) script))), (some (some (eX s_1))), (some (some ((eL eA) odd))), (some (some (eI y))), (some (some ((eT (eTu (fC eI (f1 eI)))) both))), none, none, none, none, none, none, (some (some ((eT (eTu (fC eI (f1 eI)))) q.1))), (some (some ((eT (eTu (fC eI (f1 eI)))) q.2.1))), (some (some ((eT (eTu (fC eI (f1 eI)))) q.2.2.1))), (some (some (eS q_1.1))), (some (some (eI q_1.2.1))), none, (some none), (some none)]) ?_ ⟨rfl, rfl, rfl, rfl, rfl, rfl, rfl, rfl, rfl, rfl, rfl, rfl, trivial⟩
                      refine xb_ifG ?_ gone_ret ?_ ?_
                      · exact (xt_test (x_cv (t' := (Option.bind (t_multiplied_powers both q.2.2.1) fun x_18 => Option.bind (Option.bind (t_multiplied_powers q.2.1 q.2.2.1) fun x_17 => t_multiplied_powers q.1 x_17) fun x_19 => some ((!decide (x_18 = x_19))))) (x_bin (ea := (eT (eTu (fC eI (f1 eI))))) (eb := (eT (eTu (fC eI (f1 eI))))) (ec := eB) (f := (fun a_ b_ => some ((!decide (a_ = b_))))) (q_ne (eqT (eqTu (eqC eqI (eq1 eqI))))) (xo_val (x_callT (f := (fun (p_ : (List (Int × Int)) × (List (Int × Int)) × Unit) => t_multiplied_powers p_.1 p_.2.1)) (p := (both, q.2.2.1, ())) k_multiplied_powers (xa_cv (t' := some (both, q.2.2.1, ())) (xa_cons (o1 := false) (o2 := false) (xo_val (x_var (ea := (eT (eTu (fC eI (f1 eI))))) (v := both) rfl)) (xa_cons (o1 := false) (o2 := false) (xo_val (x_var (ea := (eT (eTu (fC eI (f1 eI))))) (v := q.2.2.1) rfl)) xa_nil)) rfl) okk)) (xo_val (x_cv (t' := (Option.bind (t_multiplied_powers q.2.1 q.2.2.1) fun x_17 => t_multiplied_powers q.1 x_17)) (x_call (f := (fun (p_ : (List (Int × Int)) × (List (Int × Int)) × Unit) => t_multiplied_powers p_.1 p_.2.1)) k_multiplied_powers (xa_cv (t' := (Option.bind (t_multiplied_powers q.2.1 q.2.2.1) fun x_16 => some ((q.1, x_16, ())))) (xa_cons (o1 := false) (o2 := false) (xo_val (x_var (ea := (eT (eTu (fC eI (f1 eI))))) (v := q.1) rfl)) (xa_cons (o1 := false) (o2 := false) (xo_val (x_callT (f := (fun (p_ : (List (Int × Int)) × (List (Int × Int)) × Unit) => t_multiplied_powers p_.1 p_.2.1)) (p := (q.2.1, q.2.2.1, ())) k_multiplied_powers (xa_cv (t' := some (q.2.1, q.2.2.1, ())) (xa_cons (o1 := false) (o2 := false) (xo_val (x_var (ea := (eT (eTu (fC eI (f1 eI))))) (v := q.2.1) rfl)) (xa_cons (o1 := false) (o2 := false) (xo_val (x_var (ea := (eT (eTu (fC eI (f1 eI))))) (v := q.2.2.1) rfl)) xa_nil)) rfl) okk)) xa_nil)) (by first | with_reducible rfl | simp -implicitDefEqProofs only [Option.map_eq_bind, Option.bind_assoc, Option.bind_some, Function.comp_def] | rfl)) okk) (by first | with_reducible rfl | simp -implicitDefEqProofs only [Option.map_eq_bind, Option.bind_assoc, Option.bind_some, Function.comp_def] | rfl))) okf) (by first | with_reducible rfl | simp -implicitDefEqProofs only [Option.map_eq_bind, Option.bind_assoc, Option.bind_some, Function.comp_def] | rfl)))
                      · refine xb_weak (L' := [(some (some ((eL eI) script))), (some (some (eX s_1))), (some (some ((eL eA) odd))), (some (some (eI y))), (some (some ((eT (eTu (fC eI (f1 eI)))) both))), none, none, none, none, none, none, (some (some ((eT (eTu (fC eI (f1 eI)))) q.1))), (some (some ((eT (eTu (fC eI (f1 eI)))) q.2.1))), (some (some ((eT (eTu (fC eI (f1 eI)))) q.2.2.1))), (some (some (eS q_1.1))), (some (some (eI q_1.2.1))), none, (some none), (some none)]) ?_ ⟨rfl, rfl, rfl, rfl, rfl, rfl, rfl, rfl, rfl, rfl, rfl, rfl, trivial⟩
                        exact (xb_cv (xb_ret (k := fun v_ => (Ctl.rt v_)) (rv_ok rfl) (XP.w (x_c (ea := eB) (v := false) rfl))) rfl)
                      · refine xb_weak (L' := [(some (some ((eL eI) script))), (some (some (eX s_1))), (some (some ((eL eA) odd))), (some (some (eI y))), (some (some ((eT (eTu (fC eI (f1 eI)))) both))), none, none, none, none, none, none, (some (some ((eT (eTu (fC eI (f1 eI)))) q.1))), (some (some ((eT (eTu (fC eI (f1 eI)))) q.2.1))), (some (some ((eT (eTu (fC eI (f1 eI)))) q.2.2.1))), (some (some (eS q_1.1))), (some (some (eI q_1.2.1))), none, (some none), (some none)]) ?_ ⟨rfl, rfl, rfl, rfl, rfl, rfl, rfl, rfl, rfl, rfl, rfl, rfl, trivial⟩
                        refine xb_asg (ea := (eT (eTu (fC eI (f1 eI))))) ?_ (fun turned => xg_nm) fun turned => ?_
                        · exact (x_cv (t' := (Option.bind (compG (fun (y_1 : (Int × Int)) => (some true)) (fun (y_1 : (Int × Int)) => (some ((0 - y_1.1), y_1.2))) (revT q.1 none)) fun x_20 => some (x_20))) (x_callB (ec := (eT (eTu (fC eI (f1 eI))))) (f := (fun (p_ : (List (Int × Int)) × Unit) => some (p_.1))) (q_tupL (ea := (eTu (fC eI (f1 eI))))) (xa_cons (o1 := false) (o2 := false) (xo_val (x_compIT (ea := (eTu (fC eI (f1 eI)))) (eb := (eTu (fC eI (f1 eI)))) (p := fun (y_1 : (Int × Int)) => (some true)) (f := fun (y_1 : (Int × Int)) => (some ((0 - y_1.1), y_1.2))) (xi_tup (ea := (eTu (fC eI (f1 eI)))) (x_cv (t' := some (revT q.1 none)) (x_revT (ea := (eTu (fC eI (f1 eI)))) (xo_val (x_var (ea := (eT (eTu (fC eI (f1 eI))))) (v := q.1) rfl)) xq_none okf) rfl)) (fun y_1 => (xg_tu rfl (xg_cons xg_nm (xg_cons xg_nm xg_nil)))) (fun y_1 => ⟨rfl, rfl, rfl, rfl, rfl, rfl, rfl, rfl, rfl, rfl, rfl, rfl, trivial⟩) (fun y_1 => xt_yes) (fun y_1 => (x_cv (t' := some ((0 - y_1.1), y_1.2)) (x_up (ea := (eTu (fC eI (fC eI f0)))) (eb := (eTu (fC eI (f1 eI)))) (fun x_ => (x_.1, x_.2.1)) (fun _ => rfl) (x_tup (xa_cv (t' := some ((0 - y_1.1), y_1.2, ())) (xa_cons (o1 := false) (o2 := false) (xo_val (x_cv (t' := some (0 - y_1.1)) (x_bin (ea := eI) (eb := eI) (ec := eI) (f := (fun a_ b_ => some ((a_ - b_)))) q_sub (xo_val (x_c (ea := eI) (v := 0) rfl)) (xo_val (x_var (ea := eI) (v := y_1.1) rfl)) okf) rfl)) (xa_cons (o1 := false) (o2 := false) (xo_val (x_var (ea := eI) (v := y_1.2) rfl)) xa_nil)) rfl) (fun _ => (by decide : 2 ≤ 1000)))) rfl)))) xa_nil) okf) (by first | with_reducible rfl | simp -implicitDefEqProofs only [Option.map_eq_bind, Option.bind_assoc, Option.bind_some, Function.comp_def] | rfl))
                        · refine xb_weak (L' := [(some (some ((eL eI) script))), (some (some (eX s_1))), (some (some ((eL eA) odd))), (some (some (eI y))), (some (some ((eT (eTu (fC eI (f1 eI)))) both))), (some (some ((eT (eTu (fC eI (f1 eI)))) turned))), none, none, none, none, none, (some (some ((eT (eTu (fC eI (f1 eI)))) q.1))), (some (some ((eT (eTu (fC eI (f1 eI)))) q.2.1))), (some (some ((eT (eTu (fC eI (f1 eI)))) q.2.2.1))), (some (some (eS q_1.1))), (some (some (eI q_1.2.1))), none, (some none), (some none)]) ?_ ⟨rfl, rfl, rfl, rfl, rfl, rfl, rfl, rfl, rfl, rfl, rfl, rfl, rfl, trivial⟩
                          refine xb_ifG ?_ gone_ret ?_ ?_
                          · exact (xt_cv (t' := (Option.bind (Option.bind (Option.bind (t_turned_powers q.1) fun x_21 => reprT ((eT (eTu (fC eI (f1 eI)))) x_21)) fun x_22 => Option.bind (reprT ((eT (eTu (fC eI (f1 eI)))) turned)) fun x_23 => some ((!decide (x_22 = x_23)))) fun x_ => if x_ = true then some true else (Option.bind (t_turned_powers both) fun x_26 => Option.bind (Option.bind (t_turned_powers q.2.1) fun x_25 => t_law_times turned x_25) fun x_27 => some ((!decide (x_26 = x_27)))))) (xt_or (xt_test (x_cv (t' := (Option.bind (Option.bind (t_turned_powers q.1) fun x_21 => reprT ((eT (eTu (fC eI (f1 eI)))) x_21)) fun x_22 => Option.bind (reprT ((eT (eTu (fC eI (f1 eI)))) turned)) fun x_23 => some ((!decide (x_22 = x_23))))) (x_bin (ea := eS) (eb := eS) (ec := eB) (f := (fun a_ b_ => some ((!decide (a_ = b_))))) q_neS (xo_val (x_cv (t' := (Option.bind (t_turned_powers q.1) fun x_21 => reprT ((eT (eTu (fC eI (f1 eI)))) x_21))) (x_callB (ec := eS) (f := (fun (p_ : (List (Int × Int)) × Unit) => reprT ((eT (eTu (fC eI (f1 eI)))) p_.1))) (q_repr (ea := (eT (eTu (fC eI (f1 eI)))))) (xa_cons (o1 := false) (o2 := false) (xo_val (x_callT (f := (fun (p_ : (List (Int × Int)) × Unit) => t_turned_powers p_.1)) (p := (q.1, ())) k_turned_powers (xa_cv (t' := some (q.1, ())) (xa_cons (o1 := false) (o2 := false) (xo_val (x_var (ea := (eT (eTu (fC eI (f1 eI))))) (v := q.1) rfl)) xa_nil) rfl) okk)) xa_nil) okf) (by first | with_reducible rfl | simp -implicitDefEqProofs only [Option.map_eq_bind, Option.bind_assoc, Option.bind_some, Function.comp_def] | rfl))) (xo_val (x_callBT (ec := eS) (f := (fun (p_ : (List (Int × Int)) × Unit) => reprT ((eT (eTu (fC eI (f1 eI)))) p_.1))) (p := (turned, ())) (q_repr (ea := (eT (eTu (fC eI (f1 eI)))))) (xa_cv (t' := some (turned, ())) (xa_cons (o1 := false) (o2 := false) (xo_val (x_var (ea := (eT (eTu (fC eI (f1 eI))))) (v := turned) rfl)) xa_nil) rfl) okf)) okf) (by first | with_reducible rfl | simp -implicitDefEqProofs only [Option.map_eq_bind, Option.bind_assoc, Option.bind_some, Function.comp_def] | rfl))) (xt_test (x_cv (t' := (Option.bind (t_turned_powers both) fun x_26 => Option.bind (Option.bind (t_turned_powers q.2.1) fun x_25 => t_law_times turned x_25) fun x_27 => some ((!decide (x_26 = x_27))))) (x_bin (ea := (eT (eTu (fC eI (f1 eI))))) (eb := (eT (eTu (fC eI (f1 eI))))) (ec := eB) (f := (fun a_ b_ => some ((!decide (a_ = b_))))) (q_ne (eqT (eqTu (eqC eqI (eq1 eqI))))) (xo_val (x_callT (f := (fun (p_ : (List (Int × Int)) × Unit) => t_turned_powers p_.1)) (p := (both, ())) k_turned_powers (xa_cv (t' := some (both, ())) (xa_cons (o1 := false) (o2 := false) (xo_val (x_var (ea := (eT (eTu (fC eI (f1 eI))))) (v := both) rfl)) xa_nil) rfl) okk)) (xo_val (x_cv (t' := (Option.bind (t_turned_powers q.2.1) fun x_25 => t_law_times turned x_25)) (x_call (f := (fun (p_ : (List (Int × Int)) × (List (Int × Int)) × Unit) => t_law_times p_.1 p_.2.1)) k__law_times (xa_cv (t' := (Option.bind (t_turned_powers q.2.1) fun x_24 => some ((turned, x_24, ())))) (xa_cons (o1 := false) (o2 := false) (xo_val (x_var (ea := (eT (eTu (fC eI (f1 eI))))) (v := turned) rfl)) (xa_cons (o1 := false) (o2 := false) (xo_val (x_callT (f := (fun (p_ : (List (Int × Int)) × Unit) => t_turned_powers p_.1)) (p := (q.2.1, ())) k_turned_powers (xa_cv (t' := some (q.2.1, ())) (xa_cons (o1 := false) (o2 := false) (xo_val (x_var (ea := (eT (eTu (fC eI (f1 eI))))) (v := q.2.1) rfl)) xa_nil) rfl) okk)) xa_nil)) (by first | with_reducible rfl | simp -implicitDefEqProofs only [Option.map_eq_bind, Option.bind_assoc, Option.bind_some, Function.comp_def] | rfl)) okk) (by first | with_reducible rfl | simp -implicitDefEqProofs only [Option.map_eq_bind, Option.bind_assoc, Option.bind_some, Function.comp_def] | rfl))) okf) (by first | with_reducible rfl | simp -implicitDefEqProofs only [Option.map_eq_bind, Option.bind_assoc, Option.bind_some, Function.comp_def] | rfl)))) rfl)
                          · refine xb_weak (L' := [(some (some ((eL eI) script))), (some (some (eX s_1))), (some (some ((eL eA) odd))), (some (some (eI y))), (some (some ((eT (eTu (fC eI (f1 eI)))) both))), (some (some ((eT (eTu (fC eI (f1 eI)))) turned))), none, none, none, none, none, (some (some ((eT (eTu (fC eI (f1 eI)))) q.1))), (some (some ((eT (eTu (fC eI (f1 eI)))) q.2.1))), (some (some ((eT (eTu (fC eI (f1 eI)))) q.2.2.1))), (some (some (eS q_1.1))), (some (some (eI q_1.2.1))), none, (some none), (some none)]) ?_ ⟨rfl, rfl, rfl, rfl, rfl, rfl, rfl, rfl, rfl, rfl, rfl, rfl, rfl, trivial⟩
                            exact (xb_cv (xb_ret (k := fun v_ => (Ctl.rt v_)) (rv_ok rfl) (XP.w (x_c (ea := eB) (v := false) rfl))) rfl)
                          · refine xb_weak (L' := [(some (some ((eL eI) script))), (some (some (eX s_1))), (some (some ((eL eA) odd))), (some (some (eI y))), (some (some ((eT (eTu (fC eI (f1 eI)))) both))), (some (some ((eT (eTu (fC eI (f1 eI)))) turned))), none, none, none, none, none, (some (some ((eT (eTu (fC eI (f1 eI)))) q.1))), (some (some ((eT (eTu (fC eI (f1 eI)))) q.2.1))), (some (some ((eT (eTu (fC eI (f1 eI)))) q.2.2.1))), (some (some (eS q_1.1))), (some (some (eI q_1.2.1))), none, (some none), (some none)]) ?_ ⟨rfl, rfl, rfl, rfl, rfl, rfl, rfl, rfl, rfl, rfl, rfl, rfl, rfl, trivial⟩
                            refine xb_asg (ea := eI) ?_ (fun total => xg_nm) fun total => ?_
                            · exact (x_cv (t' := (Option.bind (compG (fun (y_2 : (Int × Int)) => (some true)) (fun (y_2 : (Int × Int)) => (some y_2.2)) q.1) fun x_28 => some ((List.sum x_28)))) (x_callB (ec := eI) (f := (fun (p_ : (List Int) × Unit) => some ((List.sum p_.1)))) q_sum (xa_cons (o1 := false) (o2 := false) (xo_val (x_compIT (ea := (eTu (fC eI (f1 eI)))) (eb := eI) (p := fun (y_2 : (Int × Int)) => (some true)) (f := fun (y_2 : (Int × Int)) => (some y_2.2)) (xi_tup (ea := (eTu (fC eI (f1 eI)))) (x_var (ea := (eT (eTu (fC eI (f1 eI))))) (v := q.1) rfl)) (fun y_2 => (xg_tu rfl (xg_cons xg_nm (xg_cons xg_nm xg_nil)))) (fun y_2 => ⟨rfl, rfl, rfl, rfl, rfl, rfl, rfl, rfl, rfl, rfl, rfl, rfl, rfl, trivial⟩) (fun y_2 => xt_yes) (fun y_2 => (x_var (ea := eI) (v := y_2.2) rfl)))) xa_nil) okf) (by first | with_reducible rfl | simp -implicitDefEqProofs only [Option.map_eq_bind, Option.bind_assoc, Option.bind_some, Function.comp_def] | rfl))
                            · refine xb_weak (L' := [(some (some ((eL eI) script))), (some (some (eX s_1))), (some (some ((eL eA) odd))), (some (some (eI y))), (some (some ((eT (eTu (fC eI (f1 eI)))) both))), (some (some ((eT (eTu (fC eI (f1 eI)))) turned))), (some (some (eI total))), none, none, none, none, (some (some ((eT (eTu (fC eI (f1 eI)))) q.1))), (some (some ((eT (eTu (fC eI (f1 eI)))) q.2.1))), (some (some ((eT (eTu (fC eI (f1 eI)))) q.2.2.1))), (some (some (eS q_1.1))), (some (some (eI q_1.2.1))), none, (some none), (some none)]) ?_ ⟨rfl, rfl, rfl, rfl, rfl, rfl, rfl, rfl, rfl, rfl, rfl, rfl, rfl, rfl, trivial⟩
                              refine xb_ifG ?_ gone_ret ?_ ?_
                              · exact (xt_cv (t' := (Option.bind (Option.bind (Option.bind (t_sum_at_one q.1) fun x_29 => reprT (eI x_29)) fun x_30 => Option.bind (reprT (eI total)) fun x_31 => some ((!decide (x_30 = x_31)))) fun x_ => if x_ = true then some true else (Option.bind (t_sum_at_one both) fun x_33 => Option.bind (Option.bind (t_sum_at_one q.2.1) fun x_32 => mulT total x_32) fun x_34 => some ((!decide (x_33 = x_34)))))) (xt_or (xt_test (x_cv (t' := (Option.bind (Option.bind (t_sum_at_one q.1) fun x_29 => reprT (eI x_29)) fun x_30 => Option.bind (reprT (eI total)) fun x_31 => some ((!decide (x_30 = x_31))))) (x_bin (ea := eS) (eb := eS) (ec := eB) (f := (fun a_ b_ => some ((!decide (a_ = b_))))) q_neS (xo_val (x_cv (t' := (Option.bind (t_sum_at_one q.1) fun x_29 => reprT (eI x_29))) (x_callB (ec := eS) (f := (fun (p_ : Int × Unit) => reprT (eI p_.1))) (q_repr (ea := eI)) (xa_cons (o1 := false) (o2 := false) (xo_val (x_callT (f := (fun (p_ : (List (Int × Int)) × Unit) => t_sum_at_one p_.1)) (p := (q.1, ())) k_sum_at_one (xa_cv (t' := some (q.1, ())) (xa_cons (o1 := false) (o2 := false) (xo_val (x_var (ea := (eT (eTu (fC eI (f1 eI))))) (v := q.1) rfl)) xa_nil) rfl) okk)) xa_nil) okf) (by first | with_reducible rfl | simp -implicitDefEqProofs only [Option.map_eq_bind, Option.bind_assoc, Option.bind_some, Function.comp_def] | rfl))) (xo_val (x_callBT (ec := eS) (f := (fun (p_ : Int × Unit) => reprT (eI p_.1))) (p := (total, ())) (q_repr (ea := eI)) (xa_cv (t' := some (total, ())) (xa_cons (o1 := false) (o2 := false) (xo_val (x_var (ea := eI) (v := total) rfl)) xa_nil) rfl) okf)) okf) (by first | with_reducible rfl | simp -implicitDefEqProofs only [Option.map_eq_bind, Option.bind_assoc, Option.bind_some, Function.comp_def] | rfl))) (xt_test (x_cv (t' := (Option.bind (t_sum_at_one both) fun x_33 => Option.bind (Option.bind (t_sum_at_one q.2.1) fun x_32 => mulT total x_32) fun x_34 => some ((!decide (x_33 = x_34))))) (x_bin (ea := eI) (eb := eI) (ec := eB) (f := (fun a_ b_ => some ((!decide (a_ = b_))))) (q_ne eqI) (xo_val (x_callT (f := (fun (p_ : (List (Int × Int)) × Unit) => t_sum_at_one p_.1)) (p := (both, ())) k_sum_at_one (xa_cv (t' := some (both, ())) (xa_cons (o1 := false) (o2 := false) (xo_val (x_var (ea := (eT (eTu (fC eI (f1 eI))))) (v := both) rfl)) xa_nil) rfl) okk)) (xo_val (x_cv (t' := (Option.bind (t_sum_at_one q.2.1) fun x_32 => mulT total x_32)) (x_bin (ea := eI) (eb := eI) (ec := eI) (f := (fun a_ b_ => mulT a_ b_)) q_mul (xo_val (x_var (ea := eI) (v := total) rfl)) (xo_val (x_callT (f := (fun (p_ : (List (Int × Int)) × Unit) => t_sum_at_one p_.1)) (p := (q.2.1, ())) k_sum_at_one (xa_cv (t' := some (q.2.1, ())) (xa_cons (o1 := false) (o2 := false) (xo_val (x_var (ea := (eT (eTu (fC eI (f1 eI))))) (v := q.2.1) rfl)) xa_nil) rfl) okk)) okf) (by first | with_reducible rfl | simp -implicitDefEqProofs only [Option.map_eq_bind, Option.bind_assoc, Option.bind_some, Function.comp_def] | rfl))) okf) (by first | with_reducible rfl | simp -implicitDefEqProofs only [Option.map_eq_bind, Option.bind_assoc, Option.bind_some, Function.comp_def] | rfl)))) rfl)
                              · refine xb_weak (L' := [(some (some ((eL eI) script))), (some (some (eX s_1))), (some (some ((eL eA) odd))), (some (some (eI y))), (some (some ((eT (eTu (fC eI (f1 eI)))) both))), (some (some ((eT (eTu (fC eI (f1 eI)))) turned))), (some (some (eI total))), none, none, none, none, (some (some ((eT (eTu (fC eI (f1 eI)))) q.1))), (some (some ((eT (eTu (fC eI (f1 eI)))) q.2.1))), (some (some ((eT (eTu (fC eI (f1 eI)))) q.2.2.1))), (some (some (eS q_1.1))), (some (some (eI q_1.2.1))), none, (some none), (some none)]) ?_ ⟨rfl, rfl, rfl, rfl, rfl, rfl, rfl, rfl, rfl, rfl, rfl, rfl, rfl, rfl, trivial⟩
                                exact (xb_cv (xb_ret (k := fun v_ => (Ctl.rt v_)) (rv_ok rfl) (XP.w (x_c (ea := eB) (v := false) rfl))) rfl)
                              · refine xb_weak (L' := [(some (some ((eL eI) script))), (some (some (eX s_1))), (some (some ((eL eA) odd))), (some (some (eI y))), (some (some ((eT (eTu (fC eI (f1 eI)))) both))), (some (some ((eT (eTu (fC eI (f1 eI)))) turned))), (some (some (eI total))), none, none, none, none, (some (some ((eT (eTu (fC eI (f1 eI)))) q.1))), (some (some ((eT (eTu (fC eI (f1 eI)))) q.2.1))), (some (some ((eT (eTu (fC eI (f1 eI)))) q.2.2.1))), (some (some (eS q_1.1))), (some (some (eI q_1.2.1))), none, (some none), (some none)]) ?_ ⟨rfl, rfl, rfl, rfl, rfl, rfl, rfl, rfl, rfl, rfl, rfl, rfl, rfl, rfl, trivial⟩
                                refine xs_asg (L := (fun s_ => [(some (some ((eL eI) script))), (some (some (eX s_))), (some (some ((eL eA) odd))), (some (some (eI y))), (some (some ((eT (eTu (fC eI (f1 eI)))) both))), (some (some ((eT (eTu (fC eI (f1 eI)))) turned))), (some (some (eI total))), none, none, none, none, (some (some ((eT (eTu (fC eI (f1 eI)))) q.1))), (some (some ((eT (eTu (fC eI (f1 eI)))) q.2.1))), (some (some ((eT (eTu (fC eI (f1 eI)))) q.2.2.1))), (some (some (eS q_1.1))), (some (some (eI q_1.2.1))), none, (some none), (some none)])) (ea := eI) (t := (pickT 13)) ?_ (fun many s_2 => xg_nm) fun many s_2 => ?_
                                · exact (xs_cv (t' := (pickT 13)) (xs_callS (f := (fun (p_ : Int × Unit) s_ => pickT p_.1 s_)) k__law_pick (fun _ => rfl) (fun _ _ => rfl) (xsa_cons (o1 := false) (o2 := false) (xso_val (si := 1) (xs_cv (t' := (fun s_ => some (13, s_))) (xs_pure (t := (some 13)) fun s_ => (x_c (ea := eI) (v := 13) rfl)) rfl)) (xsa_nil (si := 1))) okk) (by first | with_reducible rfl | (funext s_; simp -implicitDefEqProofs only [thn2, lif, Option.map_eq_bind, Option.bind_assoc, Option.bind_some, Function.comp_def]) | rfl))
                                · refine xb_weak (L' := [(some (some ((eL eI) script))), (some (some (eX s_2))), (some (some ((eL eA) odd))), (some (some (eI y))), (some (some ((eT (eTu (fC eI (f1 eI)))) both))), (some (some ((eT (eTu (fC eI (f1 eI)))) turned))), (some (some (eI total))), (some (some (eI many))), none, none, none, (some (some ((eT (eTu (fC eI (f1 eI)))) q.1))), (some (some ((eT (eTu (fC eI (f1 eI)))) q.2.1))), (some (some ((eT (eTu (fC eI (f1 eI)))) q.2.2.1))), (some (some (eS q_1.1))), (some (some (eI q_1.2.1))), none, (some none), (some none)]) ?_ ⟨rfl, rfl, rfl, rfl, rfl, rfl, rfl, rfl, rfl, rfl, rfl, rfl, rfl, rfl, rfl, trivial⟩
                                  refine xb_ifG ?_ gone_ret ?_ ?_
                                  · exact (xt_test (x_cv (t' := (Option.bind (Option.bind (t_loops_taken many) fun x_35 => reprT ((eT (eTu (fC eI (f1 eI)))) x_35)) fun x_37 => Option.bind (Option.bind (t_law_loops many) fun x_36 => reprT ((eT (eTu (fC eI (f1 eI)))) x_36)) fun x_38 => some ((!decide (x_37 = x_38))))) (x_bin (ea := eS) (eb := eS) (ec := eB) (f := (fun a_ b_ => some ((!decide (a_ = b_))))) q_neS (xo_val (x_cv (t' := (Option.bind (t_loops_taken many) fun x_35 => reprT ((eT (eTu (fC eI (f1 eI)))) x_35))) (x_callB (ec := eS) (f := (fun (p_ : (List (Int × Int)) × Unit) => reprT ((eT (eTu (fC eI (f1 eI)))) p_.1))) (q_repr (ea := (eT (eTu (fC eI (f1 eI)))))) (xa_cons (o1 := false) (o2 := false) (xo_val (x_callT (f := (fun (p_ : Int × Unit) => t_loops_taken p_.1)) (p := (many, ())) k_loops_taken (xa_cv (t' := some (many, ())) (xa_cons (o1 := false) (o2 := false) (xo_val (x_var (ea := eI) (v := many) rfl)) xa_nil) rfl) okk)) xa_nil) okf) (by first | with_reducible rfl | simp -implicitDefEqProofs only [Option.map_eq_bind, Option.bind_assoc, Option.bind_some, Function.comp_def] | rfl))) (xo_val (x_cv (t' := (Option.bind (t_law_loops many) fun x_36 => reprT ((eT (eTu (fC eI (f1 eI)))) x_36))) (x_callB (ec := eS) (f := (fun (p_ : (List (Int × Int)) × Unit) => reprT ((eT (eTu (fC eI (f1 eI)))) p_.1))) (q_repr (ea := (eT (eTu (fC eI (f1 eI)))))) (xa_cons (o1 := false) (o2 := false) (xo_val (x_callT (f := (fun (p_ : Int × Unit) => t_law_loops p_.1)) (p := (many, ())) k__law_loops (xa_cv (t' := some (many, ())) (xa_cons (o1 := false) (o2 := false) (xo_val (x_var (ea := eI) (v := many) rfl)) xa_nil) rfl) okk)) xa_nil) okf) (by first | with_reducible rfl | simp -implicitDefEqProofs only [Option.map_eq_bind, Option.bind_assoc, Option.bind_some, Function.comp_def] | rfl))) okf) (by first | with_reducible rfl | simp -implicitDefEqProofs only [Option.map_eq_bind, Option.bind_assoc, Option.bind_some, Function.comp_def] | rfl)))
                                  · refine xb_weak (L' := [(some (some ((eL eI) script))), (some (some (eX s_2))), (some (some ((eL eA) odd))), (some (some (eI y))), (some (some ((eT (eTu (fC eI (f1 eI)))) both))), (some (some ((eT (eTu (fC eI (f1 eI)))) turned))), (some (some (eI total))), (some (some (eI many))), none, none, none, (some (some ((eT (eTu (fC eI (f1 eI)))) q.1))), (some (some ((eT (eTu (fC eI (f1 eI)))) q.2.1))), (some (some ((eT (eTu (fC eI (f1 eI)))) q.2.2.1))), (some (some (eS q_1.1))), (some (some (eI q_1.2.1))), none, (some none), (some none)]) ?_ ⟨rfl, rfl, rfl, rfl, rfl, rfl, rfl, rfl, rfl, rfl, rfl, rfl, rfl, rfl, rfl, trivial⟩
                                    exact (xb_cv (xb_ret (k := fun v_ => (Ctl.rt v_)) (rv_ok rfl) (XP.w (x_c (ea := eB) (v := false) rfl))) rfl)
                                  · refine xb_weak (L' := [(some (some ((eL eI) script))), (some (some (eX s_2))), (some (some ((eL eA) odd))), (some (some (eI y))), (some (some ((eT (eTu (fC eI (f1 eI)))) both))), (some (some ((eT (eTu (fC eI (f1 eI)))) turned))), (some (some (eI total))), (some (some (eI many))), none, none, none, (some (some ((eT (eTu (fC eI (f1 eI)))) q.1))), (some (some ((eT (eTu (fC eI (f1 eI)))) q.2.1))), (some (some ((eT (eTu (fC eI (f1 eI)))) q.2.2.1))), (some (some (eS q_1.1))), (some (some (eI q_1.2.1))), none, (some none), (some none)]) ?_ ⟨rfl, rfl, rfl, rfl, rfl, rfl, rfl, rfl, rfl, rfl, rfl, rfl, rfl, rfl, rfl, trivial⟩
                                    refine xb_asg (ea := (eL eA)) ?_ (fun values => xg_nm) fun values => ?_
                                    · exact (x_cv (t' := (Option.bind (Option.map (eT (eTu (fC eI (f1 eI)))) (catT q.1 q.1)) fun x_40 => some ([((eT (eTu (fC eI (f1 eI)))) q.1), ((eL (eTu (fC eI (f1 eI)))) q.1), ((eT (eTu (fC eI (f1 eI)))) (revT q.1 none)), x_40, (eN ()), ((eT eI) ([] : (List Int))), ((eTu (f1 (eTu (fC eI (f1 eI))))) ((0, 0))), ((eTu (f1 (eTu (fC eI (f1 eB))))) ((0, true))), ((eTu (f1 (eTu (fC eS (f1 eI))))) ((("0" : Str), 1)))]))) (x_up (ea := (fun p_ => PyData.list ((fC eA (fC eA (fC eA (fC eA (fC eA (fC eA (fC eA (fC eA (fC eA f0))))))))) p_))) (eb := (eL eA)) (fun x_ => [x_.1, x_.2.1, x_.2.2.1, x_.2.2.2.1, x_.2.2.2.2.1, x_.2.2.2.2.2.1, x_.2.2.2.2.2.2.1, x_.2.2.2.2.2.2.2.1, x_.2.2.2.2.2.2.2.2.1]) (fun _ => rfl) (x_lst (xa_cv (t' := (Option.bind (Option.map (eT (eTu (fC eI (f1 eI)))) (catT q.1 q.1)) fun x_39 => some ((((eT (eTu (fC eI (f1 eI)))) q.1), ((eL (eTu (fC eI (f1 eI)))) q.1), ((eT (eTu (fC eI (f1 eI)))) (revT q.1 none)), x_39, (eN ()), ((eT eI) ([] : (List Int))), ((eTu (f1 (eTu (fC eI (f1 eI))))) ((0, 0))), ((eTu (f1 (eTu (fC eI (f1 eB))))) ((0, true))), ((eTu (f1 (eTu (fC eS (f1 eI))))) ((("0" : Str), 1))), ())))) (xa_cons (o1 := false) (o2 := false) (xo_val (x_cv (t' := some ((eT (eTu (fC eI (f1 eI)))) q.1)) (x_up (ea := (eT (eTu (fC eI (f1 eI))))) (eb := eA) (eT (eTu (fC eI (f1 eI)))) (fun _ => rfl) (x_var (ea := (eT (eTu (fC eI (f1 eI))))) (v := q.1) rfl)) rfl)) (xa_cons (o1 := false) (o2 := false) (xo_val (x_cv (t' := some ((eL (eTu (fC eI (f1 eI)))) q.1)) (x_up (ea := (eL (eTu (fC eI (f1 eI))))) (eb := eA) (eL (eTu (fC eI (f1 eI)))) (fun _ => rfl) (x_cv (t' := some q.1) (x_callB (ec := (eL (eTu (fC eI (f1 eI))))) (f := (fun (p_ : (List (Int × Int)) × Unit) => some (p_.1))) (q_lstT (ea := (eTu (fC eI (f1 eI))))) (xa_cons (o1 := false) (o2 := false) (xo_val (x_var (ea := (eT (eTu (fC eI (f1 eI))))) (v := q.1) rfl)) xa_nil) okf) rfl)) rfl)) (xa_cons (o1 := false) (o2 := false) (xo_val (x_cv (t' := some ((eT (eTu (fC eI (f1 eI)))) (revT q.1 none))) (x_up (ea := (eT (eTu (fC eI (f1 eI))))) (eb := eA) (eT (eTu (fC eI (f1 eI)))) (fun _ => rfl) (x_cv (t' := some (revT q.1 none)) (x_revT (ea := (eTu (fC eI (f1 eI)))) (xo_val (x_var (ea := (eT (eTu (fC eI (f1 eI))))) (v := q.1) rfl)) xq_none okf) rfl)) rfl)) (xa_cons (o1 := false) (o2 := false) (xo_val (x_cv (t' := (Option.map (eT (eTu (fC eI (f1 eI)))) (catT q.1 q.1))) (x_up (ea := (eT (eTu (fC eI (f1 eI))))) (eb := eA) (eT (eTu (fC eI (f1 eI)))) (fun _ => rfl) (x_binT (ea := (eT (eTu (fC eI (f1 eI))))) (eb := (eT (eTu (fC eI (f1 eI))))) (ec := (eT (eTu (fC eI (f1 eI))))) (f := (fun a_ b_ => catT a_ b_)) (a := q.1) (b := q.1) q_catT (xo_val (x_var (ea := (eT (eTu (fC eI (f1 eI))))) (v := q.1) rfl)) (xo_val (x_var (ea := (eT (eTu (fC eI (f1 eI))))) (v := q.1) rfl)) okf)) rfl)) (xa_cons (o1 := false) (o2 := false) (xo_val (x_cv (t' := some (eN ())) (x_up (ea := eN) (eb := eA) eN (fun _ => rfl) (x_c (ea := eN) (v := ()) rfl)) rfl)) (xa_cons (o1 := false) (o2 := false) (xo_val (x_cv (t' := some ((eT eI) ([] : (List Int)))) (x_up (ea := (eT eI)) (eb := eA) (eT eI) (fun _ => rfl) (x_cv (t' := some ([] : (List Int))) (x_up (ea := (eTu f0)) (eb := (eT eI)) (fun x_ => []) (fun _ => rfl) (x_tup (xa_cv (t' := some (())) xa_nil rfl) (fun _ => (by decide : 0 ≤ 1000)))) rfl)) rfl)) (xa_cons (o1 := false) (o2 := false) (xo_val (x_cv (t' := some ((eTu (f1 (eTu (fC eI (f1 eI))))) ((0, 0)))) (x_up (ea := (eTu (f1 (eTu (fC eI (f1 eI)))))) (eb := eA) (eTu (f1 (eTu (fC eI (f1 eI))))) (fun _ => rfl) (x_cv (t' := some ((0, 0))) (x_up (ea := (eTu (fC (eTu (fC eI (f1 eI))) f0))) (eb := (eTu (f1 (eTu (fC eI (f1 eI)))))) (fun x_ => (x_.1)) (fun _ => rfl) (x_tup (xa_cv (t' := some ((0, 0), ())) (xa_cons (o1 := false) (o2 := false) (xo_val (x_cv (t' := some (0, 0)) (x_up (ea := (eTu (fC eI (fC eI f0)))) (eb := (eTu (fC eI (f1 eI)))) (fun x_ => (x_.1, x_.2.1)) (fun _ => rfl) (x_tup (xa_cv (t' := some (0, 0, ())) (xa_cons (o1 := false) (o2 := false) (xo_val (x_c (ea := eI) (v := 0) rfl)) (xa_cons (o1 := false) (o2 := false) (xo_val (x_c (ea := eI) (v := 0) rfl)) xa_nil)) rfl) (fun _ => (by decide : 2 ≤ 1000)))) rfl)) xa_nil) rfl) (fun _ => (by decide : 1 ≤ 1000)))) rfl)) rfl)) (xa_cons (o1 := false) (o2 := false) (xo_val (x_cv (t' := some ((eTu (f1 (eTu (fC eI (f1 eB))))) ((0, true)))) (x_up (ea := (eTu (f1 (eTu (fC eI (f1 eB)))))) (eb := eA) (eTu (f1 (eTu (fC eI (f1 eB))))) (fun _ => rfl) (x_cv (t' := some ((0, true))) (x_up (ea := (eTu (fC (eTu (fC eI (f1 eB))) f0))) (eb := (eTu (f1 (eTu (fC eI (f1 eB)))))) (fun x_ => (x_.1)) (fun _ => rfl) (x_tup (xa_cv (t' := some ((0, true), ())) (xa_cons (o1 := false) (o2 := false) (xo_val (x_cv (t' := some (0, true)) (x_up (ea := (eTu (fC eI (fC eB f0)))) (eb := (eTu (fC eI (f1 eB)))) (fun x_ => (x_.1, x_.2.1)) (fun _ => rfl) (x_tup (xa_cv (t' := some (0, true, ())) (xa_cons (o1 := false) (o2 := false) (xo_val (x_c (ea := eI) (v := 0) rfl)) (xa_cons (o1 := false) (o2 := false) (xo_val (x_c (ea := eB) (v := true) rfl)) xa_nil)) rfl) (fun _ => (by decide : 2 ≤ 1000)))) rfl)) xa_nil) rfl) (fun _ => (by decide : 1 ≤ 1000)))) rfl)) rfl)) (xa_cons (o1 := false) (o2 := false) (xo_val (x_cv (t' := some ((eTu (f1 (eTu (fC eS (f1 eI))))) ((("0" : Str), 1)))) (x_up (ea := (eTu (f1 (eTu (fC eS (f1 eI)))))) (eb := eA) (eTu (f1 (eTu (fC eS (f1 eI))))) (fun _ => rfl) (x_cv (t' := some ((("0" : Str), 1))) (x_up (ea := (eTu (fC (eTu (fC eS (f1 eI))) f0))) (eb := (eTu (f1 (eTu (fC eS (f1 eI)))))) (fun x_ => (x_.1)) (fun _ => rfl) (x_tup (xa_cv (t' := some ((("0" : Str), 1), ())) (xa_cons (o1 := false) (o2 := false) (xo_val (x_cv (t' := some (("0" : Str), 1)) (x_up (ea := (eTu (fC eS (fC eI f0)))) (eb := (eTu (fC eS (f1 eI)))) (fun x_ => (x_.1, x_.2.1)) (fun _ => rfl) (x_tup (xa_cv (t' := some (("0" : Str), 1, ())) (xa_cons (o1 := false) (o2 := false) (xo_val (x_c (ea := eS) (v := "0") rfl)) (xa_cons (o1 := false) (o2 := false) (xo_val (x_c (ea := eI) (v := 1) rfl)) xa_nil)) rfl) (fun _ => (by decide : 2 ≤ 1000)))) rfl)) xa_nil) rfl) (fun _ => (by decide : 1 ≤ 1000)))) rfl)) rfl)) xa_nil))))))))) (by first | with_reducible rfl | simp -implicitDefEqProofs only [Option.map_eq_bind, Option.bind_assoc, Option.bind_some, Function.comp_def] | rfl)) (fun _ => (by decide : 9 ≤ 1000)))) (by first | with_reducible rfl | simp -implicitDefEqProofs only [Option.map_eq_bind, Option.bind_assoc, Option.bind_some, Function.comp_def] | rfl))
                                    · refine xb_weak (L' := [(some (some ((eL eI) script))), (some (some (eX s_2))), (some (some ((eL eA) odd))), (some (some (eI y))), (some (some ((eT (eTu (fC eI (f1 eI)))) both))), (some (some ((eT (eTu (fC eI (f1 eI)))) turned))), (some (some (eI total))), (some (some (eI many))), (some (some ((eL eA) values))), none, none, (some (some ((eT (eTu (fC eI (f1 eI)))) q.1))), (some (some ((eT (eTu (fC eI (f1 eI)))) q.2.1))), (some (some ((eT (eTu (fC eI (f1 eI)))) q.2.2.1))), (some (some (eS q_1.1))), (some (some (eI q_1.2.1))), none, (some none), (some none)]) ?_ ⟨rfl, rfl, rfl, rfl, rfl, rfl, rfl, rfl, rfl, rfl, rfl, rfl, rfl, rfl, rfl, rfl, trivial⟩
                                      refine xb_thn (σ := (Src × (List PyData))) (env := (fun (st_ : (Src × (List PyData))) => [(some (some ((eL eI) script))), (some (some (eX st_.1))), (some (some ((eL eA) odd))), (some (some (eI y))), (some (some ((eT (eTu (fC eI (f1 eI)))) both))), (some (some ((eT (eTu (fC eI (f1 eI)))) turned))), (some (some (eI total))), (some (some (eI many))), (some (some ((eL eA) st_.2))), none, none, (some (some ((eT (eTu (fC eI (f1 eI)))) q.1))), (some (some ((eT (eTu (fC eI (f1 eI)))) q.2.1))), (some (some ((eT (eTu (fC eI (f1 eI)))) q.2.2.1))), (some (some (eS q_1.1))), (some (some (eI q_1.2.1))), none, (some none), (some none)])) ?_ fun st_2 => ?_
                                      · refine xb_for (ea := eI) (env := (fun (st_ : (Src × (List PyData))) => [(some (some ((eL eI) script))), (some (some (eX st_.1))), (some (some ((eL eA) odd))), (some (some (eI y))), (some (some ((eT (eTu (fC eI (f1 eI)))) both))), (some (some ((eT (eTu (fC eI (f1 eI)))) turned))), (some (some (eI total))), (some (some (eI many))), (some (some ((eL eA) st_.2))), none, none, (some (some ((eT (eTu (fC eI (f1 eI)))) q.1))), (some (some ((eT (eTu (fC eI (f1 eI)))) q.2.1))), (some (some ((eT (eTu (fC eI (f1 eI)))) q.2.2.1))), (some (some (eS q_1.1))), (some (some (eI q_1.2.1))), none, (some none), (some none)])) (f := (l0_law odd q)) (s0 := (s_2, values)) (L := [(some (some ((eL eI) script))), (some (some (eX s_2))), (some (some ((eL eA) odd))), (some (some (eI y))), (some (some ((eT (eTu (fC eI (f1 eI)))) both))), (some (some ((eT (eTu (fC eI (f1 eI)))) turned))), (some (some (eI total))), (some (some (eI many))), (some (some ((eL eA) values))), none, none, (some (some ((eT (eTu (fC eI (f1 eI)))) q.1))), (some (some ((eT (eTu (fC eI (f1 eI)))) q.2.1))), (some (some ((eT (eTu (fC eI (f1 eI)))) q.2.2.1))), (some (some (eS q_1.1))), (some (some (eI q_1.2.1))), none, (some none), (some none)]) ?_ ⟨rfl, rfl, rfl, rfl, rfl, rfl, rfl, rfl, rfl, rfl, rfl, rfl, rfl, rfl, rfl, rfl, trivial⟩ (fun st_1 y_3 => xg_nm) (fun st_1 y_3 => ?_)
                                        · exact (xi2 (xi_rng1T (xa_cv (t' := some (6, ())) (xa_cons (o1 := false) (o2 := false) (xo_val (x_c (ea := eI) (v := 6) rfl)) xa_nil) rfl)))
                                        · unfold l0_law
                                          refine xb_weak (L' := [(some (some ((eL eI) script))), (some (some (eX st_1.1))), (some (some ((eL eA) odd))), (some (some (eI y))), (some (some ((eT (eTu (fC eI (f1 eI)))) both))), (some (some ((eT (eTu (fC eI (f1 eI)))) turned))), (some (some (eI total))), (some (some (eI many))), (some (some ((eL eA) st_1.2))), (some (some (eI y_3))), none, (some (some ((eT (eTu (fC eI (f1 eI)))) q.1))), (some (some ((eT (eTu (fC eI (f1 eI)))) q.2.1))), (some (some ((eT (eTu (fC eI (f1 eI)))) q.2.2.1))), (some (some (eS q_1.1))), (some (some (eI q_1.2.1))), none, (some none), (some none)]) ?_ ⟨rfl, rfl, rfl, rfl, rfl, rfl, rfl, rfl, rfl, rfl, rfl, rfl, rfl, rfl, rfl, rfl, rfl, trivial⟩
                                          refine xb_seq_nx ?_
                                          refine xs_app (L := (fun s_ => [(some (some ((eL eI) script))), (some (some (eX s_))), (some (some ((eL eA) odd))), (some (some (eI y))), (some (some ((eT (eTu (fC eI (f1 eI)))) both))), (some (some ((eT (eTu (fC eI (f1 eI)))) turned))), (some (some (eI total))), (some (some (eI many))), (some (some ((eL eA) st_1.2))), (some (some (eI y_3))), none, (some (some ((eT (eTu (fC eI (f1 eI)))) q.1))), (some (some ((eT (eTu (fC eI (f1 eI)))) q.2.1))), (some (some ((eT (eTu (fC eI (f1 eI)))) q.2.2.1))), (some (some (eS q_1.1))), (some (some (eI q_1.2.1))), none, (some none), (some none)])) (ea := eA) (l := st_1.2) (t := (t_law_near 8 ((eT (eTu (fC eI (f1 eI)))) q.1) odd)) (fun _ => rfl) ?_ fun values_1 s_3 => ?_
                                          · exact (xs_cv (t' := (t_law_near 8 ((eT (eTu (fC eI (f1 eI)))) q.1) odd)) (xs_callS (f := (fun (p_ : PyData × (List PyData) × Unit) s_ => t_law_near 8 p_.1 p_.2.1 s_)) (k__law_near 8) (fun _ => rfl) (fun _ _ => rfl) (xsa_cons (o1 := false) (o2 := false) (xso_val (si := 1) (xs_cv (t' := (fun s_ => some (((eT (eTu (fC eI (f1 eI)))) q.1), s_))) (xs_pure (t := (some ((eT (eTu (fC eI (f1 eI)))) q.1))) fun s_ => (x_cv (t' := some ((eT (eTu (fC eI (f1 eI)))) q.1)) (x_up (ea := (eT (eTu (fC eI (f1 eI))))) (eb := eA) (eT (eTu (fC eI (f1 eI)))) (fun _ => rfl) (x_var (ea := (eT (eTu (fC eI (f1 eI))))) (v := q.1) rfl)) rfl)) rfl)) (xsa_cons (o1 := false) (o2 := false) (xso_val (si := 1) (xs_cv (t' := (fun s_ => some (odd, s_))) (xs_pure (t := (some odd)) fun s_ => (x_var (ea := (eL eA)) (v := odd) rfl)) rfl)) (xsa_nil (si := 1)))) okk) (by first | with_reducible rfl | (funext s_; simp -implicitDefEqProofs only [thn2, lif, Option.map_eq_bind, Option.bind_assoc, Option.bind_some, Function.comp_def]) | rfl))
                                          · refine xb_weak (L' := [(some (some ((eL eI) script))), (some (some (eX s_3))), (some (some ((eL eA) odd))), (some (some (eI y))), (some (some ((eT (eTu (fC eI (f1 eI)))) both))), (some (some ((eT (eTu (fC eI (f1 eI)))) turned))), (some (some (eI total))), (some (some (eI many))), (some (some ((eL eA) values_1))), (some (some (eI y_3))), none, (some (some ((eT (eTu (fC eI (f1 eI)))) q.1))), (some (some ((eT (eTu (fC eI (f1 eI)))) q.2.1))), (some (some ((eT (eTu (fC eI (f1 eI)))) q.2.2.1))), (some (some (eS q_1.1))), (some (some (eI q_1.2.1))), none, (some none), (some none)]) ?_ ⟨rfl, rfl, rfl, rfl, rfl, rfl, rfl, rfl, rfl, rfl, rfl, rfl, rfl, rfl, rfl, rfl, rfl, trivial⟩
                                            exact (xb_nx (env := (fun (st_ : (Src × (List PyData))) => [(some (some ((eL eI) script))), (some (some (eX st_.1))), (some (some ((eL eA) odd))), (some (some (eI y))), (some (some ((eT (eTu (fC eI (f1 eI)))) both))), (some (some ((eT (eTu (fC eI (f1 eI)))) turned))), (some (some (eI total))), (some (some (eI many))), (some (some ((eL eA) st_.2))), none, none, (some (some ((eT (eTu (fC eI (f1 eI)))) q.1))), (some (some ((eT (eTu (fC eI (f1 eI)))) q.2.1))), (some (some ((eT (eTu (fC eI (f1 eI)))) q.2.2.1))), (some (some (eS q_1.1))), (some (some (eI q_1.2.1))), none, (some none), (some none)])) (s := (s_3, values_1)) ⟨rfl, rfl, rfl, rfl, rfl, rfl, rfl, rfl, rfl, rfl, rfl, rfl, rfl, rfl, rfl, rfl, trivial⟩)
                                      · refine xb_weak (L' := [(some (some ((eL eI) script))), (some (some (eX st_2.1))), (some (some ((eL eA) odd))), (some (some (eI y))), (some (some ((eT (eTu (fC eI (f1 eI)))) both))), (some (some ((eT (eTu (fC eI (f1 eI)))) turned))), (some (some (eI total))), (some (some (eI many))), (some (some ((eL eA) st_2.2))), none, none, (some (some ((eT (eTu (fC eI (f1 eI)))) q.1))), (some (some ((eT (eTu (fC eI (f1 eI)))) q.2.1))), (some (some ((eT (eTu (fC eI (f1 eI)))) q.2.2.1))), (some (some (eS q_1.1))), (some (some (eI q_1.2.1))), none, (some none), (some none)]) ?_ ⟨rfl, rfl, rfl, rfl, rfl, rfl, rfl, rfl, rfl, rfl, rfl, rfl, rfl, rfl, rfl, rfl, trivial⟩
                                        refine xb_thnC (σ := Unit) (Rr := (RV 19 eB)) (env := (fun (st_ : Unit) => [(some (some ((eL eI) script))), (some (some (eX st_2.1))), (some (some ((eL eA) odd))), (some (some (eI y))), (some (some ((eT (eTu (fC eI (f1 eI)))) both))), (some (some ((eT (eTu (fC eI (f1 eI)))) turned))), (some (some (eI total))), (some (some (eI many))), (some none), none, none, (some (some ((eT (eTu (fC eI (f1 eI)))) q.1))), (some (some ((eT (eTu (fC eI (f1 eI)))) q.2.1))), (some (some ((eT (eTu (fC eI (f1 eI)))) q.2.2.1))), (some (some (eS q_1.1))), (some (some (eI q_1.2.1))), none, (some none), (some none)])) (kb := fun _ => none) (kc := fun _ => none) (k := (fun v_ => Ctl.rt v_)) (fun _ _ h_ => h_) rv_nn (fun _ _ h_ => nomatch h_) (fun _ _ h_ => nomatch h_) ?_ fun st_4 => ?_
                                        · refine xb_forC (ea := eA) (env := (fun (st_ : Unit) => [(some (some ((eL eI) script))), (some (some (eX st_2.1))), (some (some ((eL eA) odd))), (some (some (eI y))), (some (some ((eT (eTu (fC eI (f1 eI)))) both))), (some (some ((eT (eTu (fC eI (f1 eI)))) turned))), (some (some (eI total))), (some (some (eI many))), (some none), none, none, (some (some ((eT (eTu (fC eI (f1 eI)))) q.1))), (some (some ((eT (eTu (fC eI (f1 eI)))) q.2.1))), (some (some ((eT (eTu (fC eI (f1 eI)))) q.2.2.1))), (some (some (eS q_1.1))), (some (some (eI q_1.2.1))), none, (some none), (some none)])) (f := l1_law) (s0 := ()) (L := [(some (some ((eL eI) script))), (some (some (eX st_2.1))), (some (some ((eL eA) odd))), (some (some (eI y))), (some (some ((eT (eTu (fC eI (f1 eI)))) both))), (some (some ((eT (eTu (fC eI (f1 eI)))) turned))), (some (some (eI total))), (some (some (eI many))), (some none), none, none, (some (some ((eT (eTu (fC eI (f1 eI)))) q.1))), (some (some ((eT (eTu (fC eI (f1 eI)))) q.2.1))), (some (some ((eT (eTu (fC eI (f1 eI)))) q.2.2.1))), (some (some (eS q_1.1))), (some (some (eI q_1.2.1))), none, (some none), (some none)]) (Rr := (RV 19 eB)) rv_rt ?_ ⟨rfl, rfl, rfl, rfl, rfl, rfl, rfl, rfl, rfl, rfl, rfl, rfl, rfl, rfl, rfl, rfl, trivial⟩ (fun st_3 y_4 => xg_nm) (fun st_3 y_4 => ?_)
                                          · exact (xi2_take (ea := eA) (v := st_2.2) rfl)
                                          · unfold l1_law
                                            refine xb_weak (L' := [(some (some ((eL eI) script))), (some (some (eX st_2.1))), (some (some ((eL eA) odd))), (some (some (eI y))), (some (some ((eT (eTu (fC eI (f1 eI)))) both))), (some (some ((eT (eTu (fC eI (f1 eI)))) turned))), (some (some (eI total))), (some (some (eI many))), (some none), none, (some (some (eA y_4))), (some (some ((eT (eTu (fC eI (f1 eI)))) q.1))), (some (some ((eT (eTu (fC eI (f1 eI)))) q.2.1))), (some (some ((eT (eTu (fC eI (f1 eI)))) q.2.2.1))), (some (some (eS q_1.1))), (some (some (eI q_1.2.1))), none, (some none), (some none)]) ?_ ⟨rfl, rfl, rfl, rfl, rfl, rfl, rfl, rfl, rfl, rfl, rfl, rfl, rfl, rfl, rfl, rfl, rfl, trivial⟩
                                            refine xb_asg (ea := eS) ?_ (fun shown => xg_nm) fun shown => ?_
                                            · exact (x_callBT (ec := eS) (f := (fun (p_ : PyData × Unit) => reprT (eA p_.1))) (p := (y_4, ())) (q_repr (ea := eA)) (xa_cv (t' := some (y_4, ())) (xa_cons (o1 := false) (o2 := false) (xo_val (x_var (ea := eA) (v := y_4) rfl)) xa_nil) rfl) okf)
                                            · refine xb_weak (L' := [(some (some ((eL eI) script))), (some (some (eX st_2.1))), (some (some ((eL eA) odd))), (some (some (eI y))), (some (some ((eT (eTu (fC eI (f1 eI)))) both))), (some (some ((eT (eTu (fC eI (f1 eI)))) turned))), (some (some (eI total))), (some (some (eI many))), (some none), none, (some (some (eA y_4))), (some (some ((eT (eTu (fC eI (f1 eI)))) q.1))), (some (some ((eT (eTu (fC eI (f1 eI)))) q.2.1))), (some (some ((eT (eTu (fC eI (f1 eI)))) q.2.2.1))), (some (some (eS q_1.1))), (some (some (eI q_1.2.1))), (some (some (eS shown))), (some none), (some none)]) ?_ ⟨rfl, rfl, rfl, rfl, rfl, rfl, rfl, rfl, rfl, rfl, rfl, rfl, rfl, rfl, rfl, rfl, rfl, rfl, trivial⟩
                                              refine xb_if ?_ ?_ ?_
                                              · exact (xt_cv (t' := (Option.bind (Option.bind (Option.bind (t_is_power_sum y_4) fun x_42 => reprT (eB x_42)) fun x_44 => Option.bind (Option.bind (t_law_is_sum y_4) fun x_43 => reprT (eB x_43)) fun x_45 => some ((!decide (x_44 = x_45)))) fun x_ => if x_ = true then some true else (Option.bind (reprT (eA y_4)) fun x_46 => some ((!decide (x_46 = shown)))))) (xt_or (xt_test (x_cv (t' := (Option.bind (Option.bind (t_is_power_sum y_4) fun x_42 => reprT (eB x_42)) fun x_44 => Option.bind (Option.bind (t_law_is_sum y_4) fun x_43 => reprT (eB x_43)) fun x_45 => some ((!decide (x_44 = x_45))))) (x_bin (ea := eS) (eb := eS) (ec := eB) (f := (fun a_ b_ => some ((!decide (a_ = b_))))) q_neS (xo_val (x_cv (t' := (Option.bind (t_is_power_sum y_4) fun x_42 => reprT (eB x_42))) (x_callB (ec := eS) (f := (fun (p_ : Bool × Unit) => reprT (eB p_.1))) (q_repr (ea := eB)) (xa_cons (o1 := false) (o2 := false) (xo_val (x_callT (f := (fun (p_ : PyData × Unit) => t_is_power_sum p_.1)) (p := (y_4, ())) k_is_power_sum (xa_cv (t' := some (y_4, ())) (xa_cons (o1 := false) (o2 := false) (xo_val (x_var (ea := eA) (v := y_4) rfl)) xa_nil) rfl) okk)) xa_nil) okf) (by first | with_reducible rfl | simp -implicitDefEqProofs only [Option.map_eq_bind, Option.bind_assoc, Option.bind_some, Function.comp_def] | rfl))) (xo_val (x_cv (t' := (Option.bind (t_law_is_sum y_4) fun x_43 => reprT (eB x_43))) (x_callB (ec := eS) (f := (fun (p_ : Bool × Unit) => reprT (eB p_.1))) (q_repr (ea := eB)) (xa_cons (o1 := false) (o2 := false) (xo_val (x_callT (f := (fun (p_ : PyData × Unit) => t_law_is_sum p_.1)) (p := (y_4, ())) k__law_is_sum (xa_cv (t' := some (y_4, ())) (xa_cons (o1 := false) (o2 := false) (xo_val (x_var (ea := eA) (v := y_4) rfl)) xa_nil) rfl) okk)) xa_nil) okf) (by first | with_reducible rfl | simp -implicitDefEqProofs only [Option.map_eq_bind, Option.bind_assoc, Option.bind_some, Function.comp_def] | rfl))) okf) (by first | with_reducible rfl | simp -implicitDefEqProofs only [Option.map_eq_bind, Option.bind_assoc, Option.bind_some, Function.comp_def] | rfl))) (xt_test (x_cv (t' := (Option.bind (reprT (eA y_4)) fun x_46 => some ((!decide (x_46 = shown))))) (x_bin (ea := eS) (eb := eS) (ec := eB) (f := (fun a_ b_ => some ((!decide (a_ = b_))))) q_neS (xo_val (x_callBT (ec := eS) (f := (fun (p_ : PyData × Unit) => reprT (eA p_.1))) (p := (y_4, ())) (q_repr (ea := eA)) (xa_cv (t' := some (y_4, ())) (xa_cons (o1 := false) (o2 := false) (xo_val (x_var (ea := eA) (v := y_4) rfl)) xa_nil) rfl) okf)) (xo_val (x_var (ea := eS) (v := shown) rfl)) okf) (by first | with_reducible rfl | simp -implicitDefEqProofs only [Option.map_eq_bind, Option.bind_assoc, Option.bind_some, Function.comp_def] | rfl)))) rfl)
                                              · refine xb_weak (L' := [(some (some ((eL eI) script))), (some (some (eX st_2.1))), (some (some ((eL eA) odd))), (some (some (eI y))), (some (some ((eT (eTu (fC eI (f1 eI)))) both))), (some (some ((eT (eTu (fC eI (f1 eI)))) turned))), (some (some (eI total))), (some (some (eI many))), (some none), none, (some (some (eA y_4))), (some (some ((eT (eTu (fC eI (f1 eI)))) q.1))), (some (some ((eT (eTu (fC eI (f1 eI)))) q.2.1))), (some (some ((eT (eTu (fC eI (f1 eI)))) q.2.2.1))), (some (some (eS q_1.1))), (some (some (eI q_1.2.1))), (some (some (eS shown))), (some none), (some none)]) ?_ ⟨rfl, rfl, rfl, rfl, rfl, rfl, rfl, rfl, rfl, rfl, rfl, rfl, rfl, rfl, rfl, rfl, rfl, rfl, trivial⟩
                                                exact (xb_cv (xb_ret (k := fun v_ => (Ctl.rt v_)) (rv_ok rfl) (XP.w (x_c (ea := eB) (v := false) rfl))) rfl)
                                              · exact (xb_nxc (Rr := (RV 19 eB)) (env := (fun (st_ : Unit) => [(some (some ((eL eI) script))), (some (some (eX st_2.1))), (some (some ((eL eA) odd))), (some (some (eI y))), (some (some ((eT (eTu (fC eI (f1 eI)))) both))), (some (some ((eT (eTu (fC eI (f1 eI)))) turned))), (some (some (eI total))), (some (some (eI many))), (some none), none, none, (some (some ((eT (eTu (fC eI (f1 eI)))) q.1))), (some (some ((eT (eTu (fC eI (f1 eI)))) q.2.1))), (some (some ((eT (eTu (fC eI (f1 eI)))) q.2.2.1))), (some (some (eS q_1.1))), (some (some (eI q_1.2.1))), none, (some none), (some none)])) (s := ()) ⟨rfl, rfl, rfl, rfl, rfl, rfl, rfl, rfl, rfl, rfl, rfl, rfl, rfl, rfl, rfl, rfl, trivial⟩)
                                        · refine xb_weak (L' := [(some (some ((eL eI) script))), (some (some (eX st_2.1))), (some (some ((eL eA) odd))), (some (some (eI y))), (some (some ((eT (eTu (fC eI (f1 eI)))) both))), (some (some ((eT (eTu (fC eI (f1 eI)))) turned))), (some (some (eI total))), (some (some (eI many))), (some none), none, none, (some (some ((eT (eTu (fC eI (f1 eI)))) q.1))), (some (some ((eT (eTu (fC eI (f1 eI)))) q.2.1))), (some (some ((eT (eTu (fC eI (f1 eI)))) q.2.2.1))), (some (some (eS q_1.1))), (some (some (eI q_1.2.1))), none, (some none), (some none)]) ?_ ⟨rfl, rfl, rfl, rfl, rfl, rfl, rfl, rfl, rfl, rfl, rfl, rfl, rfl, rfl, rfl, rfl, trivial⟩
                                          refine xb_if ?_ ?_ ?_
                                          · exact (xt_test (x_cv (t' := (Option.bind (reprT ((eL (eT (eTu (fC eI (f1 eI))))) ([q.1, q.2.1, q.2.2.1]))) fun x_47 => some ((!decide (x_47 = q_1.1))))) (x_bin (ea := eS) (eb := eS) (ec := eB) (f := (fun a_ b_ => some ((!decide (a_ = b_))))) q_neS (xo_val (x_callBT (ec := eS) (f := (fun (p_ : (List (List (Int × Int))) × Unit) => reprT ((eL (eT (eTu (fC eI (f1 eI))))) p_.1))) (p := ([q.1, q.2.1, q.2.2.1], ())) (q_repr (ea := (eL (eT (eTu (fC eI (f1 eI))))))) (xa_cv (t' := some (([q.1, q.2.1, q.2.2.1]), ())) (xa_cons (o1 := false) (o2 := false) (xo_val (x_cv (t' := some ([q.1, q.2.1, q.2.2.1])) (x_up (ea := (fun p_ => PyData.list ((fC (eT (eTu (fC eI (f1 eI)))) (fC (eT (eTu (fC eI (f1 eI)))) (fC (eT (eTu (fC eI (f1 eI)))) f0))) p_))) (eb := (eL (eT (eTu (fC eI (f1 eI)))))) (fun x_ => [x_.1, x_.2.1, x_.2.2.1]) (fun _ => rfl) (x_lst (xa_cv (t' := some (q.1, q.2.1, q.2.2.1, ())) (xa_cons (o1 := false) (o2 := false) (xo_val (x_var (ea := (eT (eTu (fC eI (f1 eI))))) (v := q.1) rfl)) (xa_cons (o1 := false) (o2 := false) (xo_val (x_var (ea := (eT (eTu (fC eI (f1 eI))))) (v := q.2.1) rfl)) (xa_cons (o1 := false) (o2 := false) (xo_val (x_var (ea := (eT (eTu (fC eI (f1 eI))))) (v := q.2.2.1) rfl)) xa_nil))) rfl) (fun _ => (by decide : 3 ≤ 1000)))) rfl)) xa_nil) rfl) okf)) (xo_val (x_var (ea := eS) (v := q_1.1) rfl)) okf) (by first | with_reducible rfl | simp -implicitDefEqProofs only [Option.map_eq_bind, Option.bind_assoc, Option.bind_some, Function.comp_def] | rfl)))
                                          · refine xb_weak (L' := [(some (some ((eL eI) script))), (some (some (eX st_2.1))), (some (some ((eL eA) odd))), (some (some (eI y))), (some (some ((eT (eTu (fC eI (f1 eI)))) both))), (some (some ((eT (eTu (fC eI (f1 eI)))) turned))), (some (some (eI total))), (some (some (eI many))), (some none), none, none, (some (some ((eT (eTu (fC eI (f1 eI)))) q.1))), (some (some ((eT (eTu (fC eI (f1 eI)))) q.2.1))), (some (some ((eT (eTu (fC eI (f1 eI)))) q.2.2.1))), (some (some (eS q_1.1))), (some (some (eI q_1.2.1))), none, (some none), (some none)]) ?_ ⟨rfl, rfl, rfl, rfl, rfl, rfl, rfl, rfl, rfl, rfl, rfl, rfl, rfl, rfl, rfl, rfl, trivial⟩
                                            exact (xb_cv (xb_ret (k := fun v_ => (Ctl.rt v_)) (rv_ok rfl) (XP.w (x_c (ea := eB) (v := false) rfl))) rfl)
                                          · exact (xb_nxc (Rr := (RV 19 eB)) (env := (fun (st_ : (Src)) => [(some (some ((eL eI) script))), (some (some (eX st_))), (some (some ((eL eA) odd))), none, none, none, none, none, none, none, none, none, none, none, none, none, none, (some none), (some none)])) (s := (st_2.1)) ⟨rfl, rfl, rfl, rfl, rfl, trivial⟩)
        · refine xb_weak (L' := [(some (some ((eL eI) script))), (some (some (eX st_5))), (some (some ((eL eA) odd))), none, none, none, none, none, none, none, none, none, none, none, none, none, none, (some none), (some none)]) ?_ ⟨rfl, rfl, rfl, rfl, rfl, trivial⟩
          exact (xb_retI (rv_ok rfl) (XP.w (x_cv (t' := (if (decide (([((-2), (-1)), ((2), (-1))]) = ([((-2), (-1)), (2, (-1))]))) = true then (Option.bind (t_loops_taken 2) fun x_48 => some ((decide (x_48 = ([((-4), 1), (0, 2), (4, 1)]))))) else some false)) (x_and (x_cv (t' := some (decide (([((-2), (-1)), ((2), (-1))]) = ([((-2), (-1)), (2, (-1))])))) (x_bin (ea := (eT (eTu (fC eI (f1 eI))))) (eb := (eT (eTu (fC eI (f1 eI))))) (ec := eB) (f := (fun a_ b_ => some ((decide (a_ = b_))))) (q_eqE (q_eq (eqT (eqTu (eqC eqI (eq1 eqI)))))) (xo_val (x_c (ea := (eT (eTu (fC eI (f1 eI))))) (v := [((-2), (-1)), ((2), (-1))]) rfl)) (xo_val (x_cv (t' := some ([((-2), (-1)), (2, (-1))])) (x_up (ea := (eTu (fC (eTu (fC eI (f1 eI))) (fC (eTu (fC eI (f1 eI))) f0)))) (eb := (eT (eTu (fC eI (f1 eI))))) (fun x_ => [x_.1, x_.2.1]) (fun _ => rfl) (x_tup (xa_cv (t' := some (((-2), (-1)), (2, (-1)), ())) (xa_cons (o1 := false) (o2 := false) (xo_val (x_cv (t' := some ((-2), (-1))) (x_up (ea := (eTu (fC eI (fC eI f0)))) (eb := (eTu (fC eI (f1 eI)))) (fun x_ => (x_.1, x_.2.1)) (fun _ => rfl) (x_tup (xa_cv (t' := some ((-2), (-1), ())) (xa_cons (o1 := false) (o2 := false) (xo_val (x_cv (t' := some (-2)) (x_un (ea := eI) (ec := eI) (f := fun a_ => some (-a_)) q_neg (xo_val (x_c (ea := eI) (v := 2) rfl)) okf) rfl)) (xa_cons (o1 := false) (o2 := false) (xo_val (x_cv (t' := some (-1)) (x_un (ea := eI) (ec := eI) (f := fun a_ => some (-a_)) q_neg (xo_val (x_c (ea := eI) (v := 1) rfl)) okf) rfl)) xa_nil)) rfl) (fun _ => (by decide : 2 ≤ 1000)))) rfl)) (xa_cons (o1 := false) (o2 := false) (xo_val (x_cv (t' := some (2, (-1))) (x_up (ea := (eTu (fC eI (fC eI f0)))) (eb := (eTu (fC eI (f1 eI)))) (fun x_ => (x_.1, x_.2.1)) (fun _ => rfl) (x_tup (xa_cv (t' := some (2, (-1), ())) (xa_cons (o1 := false) (o2 := false) (xo_val (x_c (ea := eI) (v := 2) rfl)) (xa_cons (o1 := false) (o2 := false) (xo_val (x_cv (t' := some (-1)) (x_un (ea := eI) (ec := eI) (f := fun a_ => some (-a_)) q_neg (xo_val (x_c (ea := eI) (v := 1) rfl)) okf) rfl)) xa_nil)) rfl) (fun _ => (by decide : 2 ≤ 1000)))) rfl)) xa_nil)) rfl) (fun _ => (by decide : 2 ≤ 1000)))) rfl)) okf) rfl) (x_cv (t' := (Option.bind (t_loops_taken 2) fun x_48 => some ((decide (x_48 = ([((-4), 1), (0, 2), (4, 1)])))))) (x_bin (ea := (eT (eTu (fC eI (f1 eI))))) (eb := (eT (eTu (fC eI (f1 eI))))) (ec := eB) (f := (fun a_ b_ => some ((decide (a_ = b_))))) (q_eqE (q_eq (eqT (eqTu (eqC eqI (eq1 eqI)))))) (xo_val (x_callT (f := (fun (p_ : Int × Unit) => t_loops_taken p_.1)) (p := (2, ())) k_loops_taken (xa_cv (t' := some (2, ())) (xa_cons (o1 := false) (o2 := false) (xo_val (x_c (ea := eI) (v := 2) rfl)) xa_nil) rfl) okk)) (xo_val (x_cv (t' := some ([((-4), 1), (0, 2), (4, 1)])) (x_up (ea := (eTu (fC (eTu (fC eI (f1 eI))) (fC (eTu (fC eI (f1 eI))) (fC (eTu (fC eI (f1 eI))) f0))))) (eb := (eT (eTu (fC eI (f1 eI))))) (fun x_ => [x_.1, x_.2.1, x_.2.2.1]) (fun _ => rfl) (x_tup (xa_cv (t' := some (((-4), 1), (0, 2), (4, 1), ())) (xa_cons (o1 := false) (o2 := false) (xo_val (x_cv (t' := some ((-4), 1)) (x_up (ea := (eTu (fC eI (fC eI f0)))) (eb := (eTu (fC eI (f1 eI)))) (fun x_ => (x_.1, x_.2.1)) (fun _ => rfl) (x_tup (xa_cv (t' := some ((-4), 1, ())) (xa_cons (o1 := false) (o2 := false) (xo_val (x_cv (t' := some (-4)) (x_un (ea := eI) (ec := eI) (f := fun a_ => some (-a_)) q_neg (xo_val (x_c (ea := eI) (v := 4) rfl)) okf) rfl)) (xa_cons (o1 := false) (o2 := false) (xo_val (x_c (ea := eI) (v := 1) rfl)) xa_nil)) rfl) (fun _ => (by decide : 2 ≤ 1000)))) rfl)) (xa_cons (o1 := false) (o2 := false) (xo_val (x_cv (t' := some (0, 2)) (x_up (ea := (eTu (fC eI (fC eI f0)))) (eb := (eTu (fC eI (f1 eI)))) (fun x_ => (x_.1, x_.2.1)) (fun _ => rfl) (x_tup (xa_cv (t' := some (0, 2, ())) (xa_cons (o1 := false) (o2 := false) (xo_val (x_c (ea := eI) (v := 0) rfl)) (xa_cons (o1 := false) (o2 := false) (xo_val (x_c (ea := eI) (v := 2) rfl)) xa_nil)) rfl) (fun _ => (by decide : 2 ≤ 1000)))) rfl)) (xa_cons (o1 := false) (o2 := false) (xo_val (x_cv (t' := some (4, 1)) (x_up (ea := (eTu (fC eI (fC eI f0)))) (eb := (eTu (fC eI (f1 eI)))) (fun x_ => (x_.1, x_.2.1)) (fun _ => rfl) (x_tup (xa_cv (t' := some (4, 1, ())) (xa_cons (o1 := false) (o2 := false) (xo_val (x_c (ea := eI) (v := 4) rfl)) (xa_cons (o1 := false) (o2 := false) (xo_val (x_c (ea := eI) (v := 1) rfl)) xa_nil)) rfl) (fun _ => (by decide : 2 ≤ 1000)))) rfl)) xa_nil))) rfl) (fun _ => (by decide : 3 ≤ 1000)))) rfl)) okf) (by first | with_reducible rfl | simp -implicitDefEqProofs only [Option.map_eq_bind, Option.bind_assoc, Option.bind_some, Function.comp_def] | rfl))) rfl))))
end K16

/-! TYU: power sums: dicts from ints to ints, told forms, products. -/
namespace DL
open PySem PySem.Spec PyProof.Rows L2
abbrev PS := List (Int × Int)
/-- the coefficient -/
def cf : PS → Int → Int
  | [], _ => 0
  | p :: l, q => (if p.1 = q then p.2 else 0) + cf l q
def tot : PS → Int
  | [] => 0
  | p :: l => p.2 + tot l
def nm : PS → Nat
  | [] => 0
  | p :: l => p.2.natAbs + nm l
theorem cf_app {a b : PS} {q : Int} : cf (a ++ b) q = cf a q + cf b q := by
  induction a with
  | nil => simp [cf]
  | cons p a ih => simp only [List.cons_append, cf, ih]; omega
theorem tot_app {a b : PS} : tot (a ++ b) = tot a + tot b := by
  induction a with
  | nil => simp [tot]
  | cons p a ih => simp only [List.cons_append, tot, ih]; omega
theorem nm_app {a b : PS} : nm (a ++ b) = nm a + nm b := by
  induction a with
  | nil => simp [nm]
  | cons p a ih => simp only [List.cons_append, nm, ih]; omega
theorem perm_cf {a b : PS} (h : a.Perm b) : (∀ q, cf a q = cf b q) ∧ tot a = tot b ∧ nm a = nm b := by
  induction h with
  | nil => exact ⟨fun _ => rfl, rfl, rfl⟩
  | cons x h ih => exact ⟨fun q => by simp only [cf, ih.1 q], by simp only [tot, ih.2.1], by simp only [nm, ih.2.2]⟩
  | swap x y l => exact ⟨fun q => by simp only [cf]; omega, by simp only [tot]; omega, by simp only [nm]; omega⟩
  | trans h1 h2 i1 i2 => exact ⟨fun q => (i1.1 q).trans (i2.1 q), i1.2.1.trans i2.2.1, i1.2.2.trans i2.2.2⟩
theorem cf_none {l : PS} {q : Int} (h : ∀ p ∈ l, p.1 ≠ q) : cf l q = 0 := by
  induction l with
  | nil => rfl
  | cons p l ih =>
    unfold cf
    rw [if_neg (h p List.mem_cons_self), ih fun x hx => h x (List.mem_cons_of_mem _ hx)]
    rfl
def Nd (l : PS) : Prop := (l.map (·.1)).Nodup
theorem Nd.cons {p : Int × Int} {l : PS} (h : Nd (p :: l)) : (∀ x ∈ l, x.1 ≠ p.1) ∧ Nd l := by
  obtain ⟨h1, h2⟩ := List.nodup_cons.mp h
  exact ⟨fun x hx e => h1 (List.mem_map.mpr ⟨x, hx, e⟩), h2⟩
theorem cf_mem {l : PS} (nd : Nd l) {p : Int × Int} (h : p ∈ l) : cf l p.1 = p.2 := by
  induction l with
  | nil => cases h
  | cons a l ih =>
    obtain ⟨h1, h2⟩ := nd.cons
    unfold cf
    rcases List.mem_cons.mp h with rfl | h
    · rw [if_pos rfl, cf_none fun x hx => h1 x hx]; omega
    · rw [if_neg fun e => h1 p h e.symm, ih h2 h]; omega
/-- a store -/
def ptI (D : PS) (k v : Int) : PS := if (D.any fun p => decide (p.1 = k)) = true then D.map (fun p => if p.1 = k then (p.1, v) else p) else D ++ [(k, v)]
theorem ptI_map {D : PS} {k v : Int} : (D.map fun p => if p.1 = k then (p.1, v) else p).map (·.1) = D.map (·.1) := by
  rw [List.map_map]
  refine List.map_congr_left fun p _ => ?_
  show (if p.1 = k then (p.1, v) else p).1 = p.1
  split <;> rfl
theorem any_iff {D : PS} {k : Int} : (D.any fun p => decide (p.1 = k)) = true ↔ ∃ p ∈ D, p.1 = k := by
  rw [List.any_eq_true]
  exact ⟨fun ⟨p, h, e⟩ => ⟨p, h, of_decide_eq_true e⟩, fun ⟨p, h, e⟩ => ⟨p, h, decide_eq_true e⟩⟩
theorem map_same {D : PS} {k v : Int} (h : ∀ p ∈ D, p.1 ≠ k) : (D.map fun p => if p.1 = k then (p.1, v) else p) = D := by
  refine (List.map_congr_left fun p hp => ?_).trans (List.map_id D)
  show (if p.1 = k then (p.1, v) else p) = p
  rw [if_neg (h p hp)]
theorem ptI_spec {D : PS} {k v : Int} (nd : Nd D) : Nd (ptI D k v) ∧ (∀ q, cf (ptI D k v) q = if q = k then v else cf D q) ∧ tot (ptI D k v) = tot D + (v - cf D k) ∧ nm (ptI D k v) + (cf D k).natAbs = nm D + v.natAbs ∧ (∀ x ∈ (ptI D k v).map (·.1), x ∈ D.map (·.1) ∨ x = k) ∧ (ptI D k v).length ≤ D.length + 1 := by
  unfold ptI
  by_cases q : (D.any fun p => decide (p.1 = k)) = true
  · rw [if_pos q]
    have hd := ptI_map (D := D) (k := k) (v := v)
    refine ⟨by unfold Nd; rw [hd]; exact nd, ?_, ?_, ?_, fun x hx => by rw [hd] at hx; exact .inl hx, by rw [List.length_map]; omega⟩
    all_goals
      have q := any_iff.mp q
      clear hd
      induction D with
      | nil => obtain ⟨p, hp, _⟩ := q; cases hp
      | cons a D ih =>
        obtain ⟨h1, h2⟩ := nd.cons
        rw [List.map_cons]
        by_cases e : a.1 = k
        · have hn : ∀ p ∈ D, p.1 ≠ k := fun p hp z => h1 p hp (z.trans e.symm)
          rw [if_pos e, map_same hn]
          first
          | (intro w
             simp only [cf]
             by_cases z : w = k
             · rw [if_pos z, if_pos (e.trans z.symm), cf_none (by rw [z]; exact hn)]; omega
             · rw [if_neg z, if_neg fun y => z (y.symm.trans e), if_neg fun y => z (y.symm.trans e)])
          | (simp only [tot, nm, cf]; rw [if_pos e, cf_none hn]; omega)
        · have q' : ∃ p ∈ D, p.1 = k := by
            obtain ⟨p, hp, z⟩ := q
            rcases List.mem_cons.mp hp with rfl | hp
            · exact absurd z e
            · exact ⟨p, hp, z⟩
          have ih := ih h2 (any_iff.mpr q') q'
          rw [if_neg e]
          first
          | (intro w
             simp only [cf]
             rw [ih w]
             by_cases z : w = k
             · rw [if_pos z, if_pos z, if_neg fun y => e (y.trans z)]; omega
             · rw [if_neg z, if_neg z])
          | (simp only [tot, nm, cf]; rw [if_neg e]; omega)
  · rw [if_neg q]
    have hn : ∀ p ∈ D, p.1 ≠ k := fun p hp e => q (any_iff.mpr ⟨p, hp, e⟩)
    refine ⟨?_, fun w => ?_, ?_, ?_, fun x hx => ?_, by rw [List.length_append]; simp⟩
    · unfold Nd
      rw [List.map_append]
      refine List.nodup_append.mpr ⟨nd, by simp, fun x hx y hy e => ?_⟩
      obtain ⟨p, hp, rfl⟩ := List.mem_map.mp hx
      have hy : y = k := by simpa using hy
      exact hn p hp (e.trans hy)
    · rw [cf_app]
      simp only [cf]
      by_cases z : w = k
      · rw [if_pos z, if_pos z.symm, cf_none (by rw [z]; exact hn)]; omega
      · rw [if_neg z, if_neg fun y => z y.symm]; omega
    · rw [tot_app, cf_none hn]; simp only [tot]; omega
    · rw [nm_app, cf_none hn]; simp only [nm]; omega
    · rw [List.map_append] at hx
      rcases List.mem_append.mp hx with h | h
      · exact .inl h
      · exact .inr (by simpa using h)
/-- something is added at a power -/
def adI (D : PS) (k w : Int) : PS := ptI D k (cf D k + w)
theorem adI_spec {D : PS} {k w : Int} (nd : Nd D) : Nd (adI D k w) ∧ (∀ q, cf (adI D k w) q = cf D q + if k = q then w else 0) ∧ tot (adI D k w) = tot D + w ∧ nm (adI D k w) ≤ nm D + w.natAbs ∧ (∀ x ∈ (adI D k w).map (·.1), x ∈ D.map (·.1) ∨ x = k) ∧ (adI D k w).length ≤ D.length + 1 := by
  obtain ⟨h1, h2, h3, h4, h5, h6⟩ := ptI_spec (k := k) (v := cf D k + w) nd
  refine ⟨h1, fun q => ?_, ?_, ?_, h5, h6⟩
  · unfold adI
    rw [h2]
    by_cases z : q = k
    · rw [if_pos z, if_pos z.symm, z]
    · rw [if_neg z, if_neg fun y => z y.symm]; omega
  · unfold adI; rw [h3]; omega
  · unfold adI; omega
/-- .. many -/
def adL : PS → PS → PS
  | D, [] => D
  | D, p :: l => adL (adI D p.1 p.2) l
theorem adL_spec : ∀ {l D : PS}, Nd D → Nd (adL D l) ∧ (∀ q, cf (adL D l) q = cf D q + cf l q) ∧ tot (adL D l) = tot D + tot l ∧ nm (adL D l) ≤ nm D + nm l ∧ (∀ x ∈ (adL D l).map (·.1), x ∈ D.map (·.1) ∨ x ∈ l.map (·.1)) ∧ (adL D l).length ≤ D.length + l.length
  | [], D, nd => ⟨nd, fun q => by simp [adL, cf], by simp [adL, tot], by simp [adL], fun x hx => .inl hx, by simp [adL]⟩
  | p :: l, D, nd => by
    obtain ⟨h1, h2, h3, h4, h5, h6⟩ := adI_spec (k := p.1) (w := p.2) nd
    obtain ⟨g1, g2, g3, g4, g5, g6⟩ := adL_spec (l := l) h1
    refine ⟨g1, fun q => ?_, ?_, ?_, fun x hx => ?_, ?_⟩
    · show cf (adL (adI D p.1 p.2) l) q = _
      rw [g2, h2]; simp only [cf]; omega
    · show tot (adL (adI D p.1 p.2) l) = _
      rw [g3, h3]; simp only [tot]; omega
    · show nm (adL (adI D p.1 p.2) l) ≤ _
      simp only [nm]; omega
    · rcases g5 x hx with h | h
      · rcases h5 x h with h | h
        · exact .inl h
        · exact .inr (by rw [List.map_cons, h]; exact List.mem_cons_self)
      · exact .inr (by rw [List.map_cons]; exact List.mem_cons_of_mem _ h)
    · show (adL (adI D p.1 p.2) l).length ≤ _
      rw [List.length_cons]; omega
theorem adL_app : ∀ {a b D : PS}, adL D (a ++ b) = adL (adL D a) b
  | [], _, _ => rfl
  | p :: a, b, D => adL_app (a := a)
/-! ### told forms -/
structure Okp (l : PS) : Prop where
  pw : l.Pairwise fun p q => p.1 < q.1
  nz : ∀ p ∈ l, p.2 ≠ 0
theorem Okp.nd {l : PS} (h : Okp l) : Nd l := by
  unfold Nd
  exact (List.pairwise_map.mpr (h.pw.imp fun h => by omega))
theorem pw_sameP : ∀ {A B : PS}, A.Pairwise (fun p q => p.1 < q.1) → B.Pairwise (fun p q => p.1 < q.1) → (∀ x, x ∈ A ↔ x ∈ B) → A = B
  | [], [], _, _, _ => rfl
  | [], b :: B, _, _, h => absurd ((h b).mpr List.mem_cons_self) (fun z => nomatch z)
  | a :: A, [], _, _, h => absurd ((h a).mp List.mem_cons_self) (fun z => nomatch z)
  | a :: A, b :: B, hA, hB, h => by
    obtain ⟨a1, a2⟩ := List.pairwise_cons.mp hA
    obtain ⟨b1, b2⟩ := List.pairwise_cons.mp hB
    have e : a = b := by
      rcases List.mem_cons.mp ((h a).mp List.mem_cons_self) with q | q
      · exact q
      · rcases List.mem_cons.mp ((h b).mpr List.mem_cons_self) with r | r
        · exact r.symm
        · have := b1 a q; have := a1 b r; omega
    subst e
    refine congrArg _ (pw_sameP a2 b2 fun x => ⟨fun hx => ?_, fun hx => ?_⟩)
    · rcases List.mem_cons.mp ((h x).mp (List.mem_cons_of_mem _ hx)) with q | q
      · have := a1 x hx; rw [q] at this; omega
      · exact q
    · rcases List.mem_cons.mp ((h x).mpr (List.mem_cons_of_mem _ hx)) with q | q
      · have := b1 x hx; rw [q] at this; omega
      · exact q
theorem Okp.mem {l : PS} (h : Okp l) {p : Int × Int} : p ∈ l ↔ p.2 ≠ 0 ∧ cf l p.1 = p.2 := by
  constructor
  · intro hp; exact ⟨h.nz p hp, cf_mem h.nd hp⟩
  · rintro ⟨h1, h2⟩
    refine Classical.byContradiction fun q => ?_
    by_cases z : ∃ x ∈ l, x.1 = p.1
    · obtain ⟨x, hx, e⟩ := z
      have := cf_mem h.nd hx
      rw [e, h2] at this
      exact q (by rw [show p = x from Prod.ext e.symm this]; exact hx)
    · rw [cf_none fun x hx e => z ⟨x, hx, e⟩] at h2
      exact h1 h2.symm
/-- alike where the coefficients are -/
theorem Okp.eq {a b : PS} (ha : Okp a) (hb : Okp b) (h : ∀ q, cf a q = cf b q) : a = b := pw_sameP ha.pw hb.pw fun x => by rw [ha.mem, hb.mem, h]
theorem cf_filter {D : PS} : (∀ q, cf (D.filter fun p => !decide (p.2 = 0)) q = cf D q) ∧ tot (D.filter fun p => !decide (p.2 = 0)) = tot D ∧ nm (D.filter fun p => !decide (p.2 = 0)) = nm D := by
  induction D with
  | nil => exact ⟨fun _ => rfl, rfl, rfl⟩
  | cons p D ih =>
    obtain ⟨i1, i2, i3⟩ := ih
    by_cases z : p.2 = 0
    · rw [List.filter_cons, if_neg (by rw [decide_eq_true z]; decide)]
      refine ⟨fun q => ?_, ?_, ?_⟩
      · rw [i1]; simp only [cf, z]; split <;> omega
      · rw [i2]; simp only [tot, z]; omega
      · rw [i3]; simp only [nm, z]; omega
    · rw [List.filter_cons, if_pos (by rw [decide_eq_false z]; decide)]
      refine ⟨fun q => ?_, ?_, ?_⟩
      · simp only [cf, i1]
      · simp only [tot, i2]
      · simp only [nm, i3]
/-- what a dict tells -/
structure TldOf (D l : PS) : Prop where
  ok : Okp l
  cf : ∀ q, cf l q = cf D q
  tot : tot l = tot D
  nm : nm l = nm D
  sub : ∀ p ∈ l, p.1 ∈ D.map (·.1)
  len : l.length ≤ D.length
theorem told_of {D l : PS} (nd : Nd D) (hp : l.Perm (D.filter fun p => !decide (p.2 = 0))) (hw : l.Pairwise fun p q => p.1 < q.1) : TldOf D l := by
  obtain ⟨h1, h2, h3⟩ := perm_cf hp
  obtain ⟨f1, f2, f3⟩ := cf_filter (D := D)
  refine ⟨⟨hw, fun p h => ?_⟩, fun q => (h1 q).trans (f1 q), h2.trans f2, h3.trans f3, fun p h => ?_, ?_⟩
  · have := (List.mem_filter.mp (hp.mem_iff.mp h)).2
    intro z
    rw [decide_eq_true z] at this
    cases this
  · exact List.mem_map_of_mem (List.mem_filter.mp (hp.mem_iff.mp h)).1
  · rw [hp.length_eq]; exact List.length_filter_le _ _
theorem TldOf.same {D D' l l' : PS} (h : TldOf D l) (h' : TldOf D' l') (e : ∀ q, DL.cf D q = DL.cf D' q) : l = l' := h.ok.eq h'.ok fun q => by rw [h.cf, h'.cf, e]
theorem nm_len {l : PS} (h : ∀ p ∈ l, p.2 ≠ 0) : l.length ≤ nm l := by
  induction l with
  | nil => exact Nat.le_refl _
  | cons p l ih =>
    have h1 := h p List.mem_cons_self
    have := ih fun x hx => h x (List.mem_cons_of_mem _ hx)
    simp only [nm, List.length_cons]; omega
theorem nm_mem {l : PS} {p : Int × Int} (h : p ∈ l) : p.2.natAbs ≤ nm l := by
  induction l with
  | nil => cases h
  | cons a l ih =>
    simp only [nm]
    rcases List.mem_cons.mp h with rfl | h
    · omega
    · have := ih h; omega
end DL

/-! TYW: dicts from ints to ints as lists of pairs; products of power sums. -/
namespace DL
open PySem PySem.Spec PyProof.Rows L2
abbrev eP : Int × Int → PyData := eTu (fC eI (f1 eI))
def dI (D : PS) : PyData := .dict (D.map fun p => (PyData.int p.1, PyData.int p.2))
theorem valD_I {D : PS} {k : Int} : valD (D.map fun p => (PyData.int p.1, PyData.int p.2)) (.int k) = (D.find? fun p => decide (p.1 = k)).map fun p => PyData.int p.2 := by
  unfold valD
  rw [List.find?_map, Option.map_map]
  rfl
theorem cf_cons {p : Int × Int} {l : PS} {q : Int} : cf (p :: l) q = (if p.1 = q then p.2 else 0) + cf l q := rfl
theorem find_cf : ∀ {D : PS} {k : Int}, Nd D → (D.find? fun p => decide (p.1 = k)).map (·.2) = if (D.any fun p => decide (p.1 = k)) = true then some (cf D k) else none
  | [], k, _ => rfl
  | a :: D, k, nd => by
    obtain ⟨h1, h2⟩ := nd.cons
    rw [List.find?_cons, List.any_cons]
    by_cases e : a.1 = k
    · rw [decide_eq_true e, Bool.true_or, if_pos rfl]
      rw [cf_cons, if_pos e, cf_none fun p hp z => h1 p hp (z.trans e.symm)]
      show some a.2 = _
      rw [Int.add_zero]
    · rw [decide_eq_false e, Bool.false_or]
      dsimp only
      rw [find_cf h2, cf_cons, if_neg e, Int.zero_add]
theorem get2_I {D : PS} {k : Int} (nd : Nd D) : dGet2T .dk (dI D) (eI k) (eI 0) = some (eI (cf D k)) := by
  unfold dGet2T dI
  dsimp only
  rw [if_pos (show kOk .dk (eI k) = true from rfl), valD_I]
  have h := find_cf (k := k) nd
  by_cases q : (D.any fun p => decide (p.1 = k)) = true
  · rw [if_pos q] at h
    cases hf : D.find? fun p => decide (p.1 = k) with
    | none => rw [hf] at h; cases h
    | some p => rw [hf] at h; rw [← Option.some.inj h]; rfl
  · rw [if_neg q] at h
    cases hf : D.find? fun p => decide (p.1 = k) with
    | some p => rw [hf] at h; cases h
    | none =>
      rw [cf_none fun p hp e => q (any_iff.mpr ⟨p, hp, e⟩)]; rfl
theorem hasD_I {D : PS} {k : Int} : hasD (D.map fun p => (PyData.int p.1, PyData.int p.2)) (.int k) = D.any fun p => decide (p.1 = k) := by
  unfold hasD
  rw [List.any_map]
  rfl
theorem putD_I {D : PS} {k v : Int} : putD (D.map fun p => (PyData.int p.1, PyData.int p.2)) (.int k) (.int v) = (ptI D k v).map fun p => (PyData.int p.1, PyData.int p.2) := by
  unfold putD ptI
  rw [hasD_I]
  split
  · rw [List.map_map, List.map_map]
    refine List.map_congr_left fun p _ => ?_
    show (if decide (p.1 = k) = true then (PyData.int p.1, PyData.int v) else (PyData.int p.1, PyData.int p.2)) = (PyData.int (if p.1 = k then (p.1, v) else p).1, PyData.int (if p.1 = k then (p.1, v) else p).2)
    by_cases q : p.1 = k
    · rw [if_pos q, if_pos (decide_eq_true q)]
    · rw [if_neg q, if_neg (by simpa using q)]
  · rw [List.map_append]; rfl
theorem put_I {D : PS} {k v : Int} (hl : D.length ≤ 1000000) : dPutT .dk (dI D) (eI k) (eI v) = some (dI (ptI D k v)) := by
  unfold dPutT dI
  dsimp only
  rw [if_pos ⟨rfl, by rw [List.length_map]; exact hl⟩]
  exact congrArg some (congrArg PyData.dict putD_I)
def mgI : PS → PS → PS
  | D, [] => D
  | D, p :: l => mgI (ptI D p.1 p.2) l
theorem mergeD_I : ∀ {l D : PS}, mergeD (D.map fun p => (PyData.int p.1, PyData.int p.2)) (l.map fun p => (PyData.int p.1, PyData.int p.2)) = (mgI D l).map fun p => (PyData.int p.1, PyData.int p.2)
  | [], _ => rfl
  | p :: l, D => by
    show mergeD (putD (D.map fun p => (PyData.int p.1, PyData.int p.2)) (.int p.1) (.int p.2)) (l.map _) = _
    rw [putD_I, mergeD_I]; rfl
theorem mgI_nd : ∀ {l D : PS}, Nd (D ++ l) → mgI D l = D ++ l
  | [], D, _ => by rw [List.append_nil]; rfl
  | p :: l, D, nd => by
    have hn : ∀ x ∈ D, x.1 ≠ p.1 := fun x hx e => by
      unfold Nd at nd
      rw [List.map_append] at nd
      exact (List.nodup_append.mp nd).2.2 x.1 (List.mem_map_of_mem hx) p.1 (by rw [List.map_cons]; exact List.mem_cons_self) e
    have e : ptI D p.1 p.2 = D ++ [p] := by
      unfold ptI
      rw [if_neg fun z => by obtain ⟨x, hx, e⟩ := any_iff.mp z; exact hn x hx e]
    show mgI (ptI D p.1 p.2) l = _
    rw [e, mgI_nd (by rw [List.append_assoc]; exact nd), List.append_assoc]; rfl
theorem pairs_P : ∀ l : PS, pairsOf (l.map eP) = some (l.map fun p => (PyData.int p.1, PyData.int p.2))
  | [] => rfl
  | p :: l => by
    rw [List.map_cons, List.map_cons]
    show (if isK (.int p.1) = true then (pairsOf (l.map eP)).map fun t => (PyData.int p.1, PyData.int p.2) :: t else none) = _
    rw [if_pos (show isK (.int p.1) = true from rfl), pairs_P]; rfl
theorem dTT_ok {l : PS} (nd : Nd l) : dTT ((eT eP) l) = some (dI l) := by
  show (pairsOf (l.map eP)).map _ = _
  rw [pairs_P]
  show some (PyData.dict (mergeD [] _)) = _
  have := mergeD_I (l := l) (D := [])
  rw [mgI_nd (by simpa using nd)] at this
  exact congrArg some (congrArg PyData.dict this)
theorem keys_I {D : PS} : keysT asI (dI D) = some (D.map (·.1)) := by
  unfold keysT dI
  dsimp only
  rw [List.map_map]
  have : ∀ l : PS, cvLs asI (l.map ((fun x : PyData × PyData => x.1) ∘ fun p : Int × Int => (PyData.int p.1, PyData.int p.2))) = some (l.map (·.1)) := fun l => by
    induction l with
    | nil => rfl
    | cons p l ih =>
      rw [List.map_cons]
      unfold cvLs
      rw [ih]; rfl
  exact this D
theorem fget_I {D : PS} (nd : Nd D) {k : Int} (hk : k ∈ D.map (·.1)) : Option.bind (fGetT (dI D) (eI k)) asI = some (cf D k) := by
  unfold fGetT dI
  dsimp only
  rw [if_pos (show (isK (eI k) || isT (eI k)) = true from rfl), valD_I]
  have h := find_cf (k := k) nd
  obtain ⟨p, hp, e⟩ := List.mem_map.mp hk
  rw [if_pos (any_iff.mpr ⟨p, hp, e⟩)] at h
  cases hf : D.find? fun p => decide (p.1 = k) with
  | none => rw [hf] at h; cases h
  | some p => rw [hf] at h; rw [← Option.some.inj h]; rfl
theorem sortT_pw' {l r : List Int} (h : sortT (fun a b => decide (a ≤ b)) l = some r) : r.Pairwise (· ≤ ·) ∧ r.Perm l := by
  unfold sortT at h
  split at h
  · cases h
    refine ⟨?_, List.mergeSort_perm _ _⟩
    refine (List.pairwise_mergeSort (le := fun a b : Int => decide (a ≤ b)) (fun a b c h1 h2 => ?_) (fun a b => ?_) l).imp fun h => of_decide_eq_true h
    · simp only [decide_eq_true_eq] at *; omega
    · simp only [Bool.or_eq_true, decide_eq_true_eq]; omega
  · cases h
theorem sortKD_ints' {kvs : List (PyData × PyData)} {l r : List Int} (e : kvs.map (·.1) = l.map eI) (h : sortT (fun a b => decide (a ≤ b)) l = some r) : sortedC [.dict kvs] = some (eL eI r) := by
  have h1 : sortedE [.list (l.map eI)] = some (.list (r.map eI)) := q_sortedE srtI (by decide) (l, ()) r h
  have hl : kvs.length = (l.map eI).length := by rw [← e, List.length_map]
  unfold sortedE at h1
  dsimp only at h1
  split at h1
  · rename_i hc
    show sortedKD [.dict kvs] = _
    unfold sortedKD
    dsimp only
    have ak : (l.map eI).all isK = true := List.all_eq_true.mpr fun d hd => by
      obtain ⟨i, _, rfl⟩ := List.mem_map.mp hd
      rfl
    rw [e, hl, if_pos]
    · exact h1
    · rw [hc, ak]; rfl
  · cases h1
/-- the told form by sorted keys -/
theorem told1 {D : PS} (nd : Nd D) (hl : D.length ≤ 1000000) : ∃ l, Option.bind (Option.bind (sortedC [eA (dI D)]) (cvL asI)) (fun x_3 => compG (fun (y : Int) => (Option.bind (Option.bind (fGetT (dI D) (eI y)) asI) fun x => some ((!decide (x = 0))))) (fun (y : Int) => (Option.bind (Option.bind (fGetT (dI D) (eI y)) asI) fun x_2 => some ((y, x_2)))) x_3) = some l ∧ TldOf D l := by
  obtain ⟨r, hr⟩ : ∃ r, sortT (fun a b => decide (a ≤ b)) (D.map (·.1)) = some r := ⟨_, if_pos (by rw [List.length_map]; exact hl)⟩
  obtain ⟨h1, h2⟩ := sortT_pw' hr
  have hk : ∀ y ∈ r, y ∈ D.map (·.1) := fun y hy => h2.mem_iff.mp hy
  have e1 : sortedC [eA (dI D)] = some (eL eI r) := sortKD_ints' (by rw [List.map_map, List.map_map]; rfl) hr
  have e2 : (cvL asI) ((eL eI) r) = some r := (dcL dcI).2 r
  have nr : r.Nodup := h2.nodup_iff.mpr nd
  have e3 := compG_some (p := fun (y : Int) => (Option.bind (Option.bind (fGetT (dI D) (eI y)) asI) fun x => some ((!decide (x = 0))))) (f := fun (y : Int) => (Option.bind (Option.bind (fGetT (dI D) (eI y)) asI) fun x_2 => some ((y, x_2)))) (xs := r) (fun y => !decide (cf D y = 0)) (fun y => (y, cf D y)) (by rw [h2.length_eq, List.length_map]; exact hl) (fun y hy => by rw [fget_I nd (hk y hy)]; rfl) fun y hy _ => by rw [fget_I nd (hk y hy)]; rfl
  refine ⟨_, by rw [e1, Option.bind_some, e2, Option.bind_some, e3], told_of nd ?_ ?_⟩
  · have p1 : ((r.filter fun y => !decide (cf D y = 0)).map fun y => (y, cf D y)).Perm (((D.map (·.1)).filter fun y => !decide (cf D y = 0)).map fun y => (y, cf D y)) := (h2.filter _).map _
    refine p1.trans (List.Perm.of_eq ?_)
    rw [List.filter_map, List.map_map]
    have p2 : D.filter ((fun y => !decide (cf D y = 0)) ∘ fun x => x.1) = D.filter fun p => !decide (p.2 = 0) := List.filter_congr fun p hp => by
      show (!decide (cf D p.1 = 0)) = _
      rw [cf_mem nd hp]
    rw [p2]
    refine (List.map_congr_left fun p hp => ?_).trans (List.map_id _)
    show (p.1, cf D p.1) = p
    rw [cf_mem nd (List.mem_filter.mp hp).1]
  · rw [List.pairwise_map]
    exact ((h1.and nr).imp fun ⟨a, b⟩ => by dsimp only; omega).filter _
/-- the told form by sorted pairs -/
theorem told2 {D : PS} (nd : Nd D) (hl : D.length ≤ 1000000) : ∃ l, Option.bind (Option.bind (keysT asI (dI D)) fun x_3 => compG (fun (y : Int) => (Option.bind (Option.bind (fGetT (dI D) (eI y)) asI) fun x => some ((!decide (x = 0))))) (fun (y : Int) => (Option.bind (Option.bind (fGetT (dI D) (eI y)) asI) fun x_2 => some ((y, x_2)))) x_3) (fun x_4 => sortT (fun p q : Int × Int => decide (p.1 < q.1 ∨ (p.1 = q.1 ∧ p.2 ≤ q.2))) x_4) = some l ∧ TldOf D l := by
  have e3 := compG_some (p := fun (y : Int) => (Option.bind (Option.bind (fGetT (dI D) (eI y)) asI) fun x => some ((!decide (x = 0))))) (f := fun (y : Int) => (Option.bind (Option.bind (fGetT (dI D) (eI y)) asI) fun x_2 => some ((y, x_2)))) (xs := D.map (·.1)) (fun y => !decide (cf D y = 0)) (fun y => (y, cf D y)) (by rw [List.length_map]; exact hl) (fun y hy => by rw [fget_I nd hy]; rfl) fun y hy _ => by rw [fget_I nd hy]; rfl
  have e4 : (((D.map (·.1)).filter fun y => !decide (cf D y = 0)).map fun y => (y, cf D y)) = D.filter fun p => !decide (p.2 = 0) := by
    rw [List.filter_map, List.map_map]
    have p2 : D.filter ((fun y => !decide (cf D y = 0)) ∘ fun x => x.1) = D.filter fun p => !decide (p.2 = 0) := List.filter_congr fun p hp => by
      show (!decide (cf D p.1 = 0)) = _
      rw [cf_mem nd hp]
    rw [p2]
    refine (List.map_congr_left fun p hp => ?_).trans (List.map_id _)
    show (p.1, cf D p.1) = p
    rw [cf_mem nd (List.mem_filter.mp hp).1]
  rw [e4] at e3
  have hf := List.length_filter_le (fun p : Int × Int => !decide (p.2 = 0)) D
  refine ⟨_, by rw [keys_I, Option.bind_some, e3, Option.bind_some]; exact if_pos (by omega), told_of nd (List.mergeSort_perm _ _) ?_⟩
  have hs := List.pairwise_mergeSort (le := fun p q : Int × Int => decide (p.1 < q.1 ∨ (p.1 = q.1 ∧ p.2 ≤ q.2))) (fun a b c h1 h2 => by
    simp only [decide_eq_true_eq] at *; omega) (fun a b => by
    simp only [Bool.or_eq_true, decide_eq_true_eq]; omega) (D.filter fun p => !decide (p.2 = 0))
  have nf : Nd (D.filter fun p => !decide (p.2 = 0)) := List.Nodup.sublist (List.filter_sublist.map _) nd
  have nm : ((D.filter fun p => !decide (p.2 = 0)).mergeSort fun p q => decide (p.1 < q.1 ∨ (p.1 = q.1 ∧ p.2 ≤ q.2))).Pairwise fun p q => p.1 ≠ q.1 := by
    have : Nd ((D.filter fun p => !decide (p.2 = 0)).mergeSort fun p q => decide (p.1 < q.1 ∨ (p.1 = q.1 ∧ p.2 ≤ q.2))) := ((List.mergeSort_perm _ _).map _).nodup_iff.mpr nf
    exact List.pairwise_map.mp this
  exact (hs.and nm).imp fun ⟨a, b⟩ => by
    have a := of_decide_eq_true a
    omega
/-! ### products -/
def sh (a : Int × Int) (l : PS) : PS := l.map fun b => (a.1 + b.1, a.2 * b.2)
def cv : PS → PS → PS
  | [], _ => []
  | a :: l, b => sh a b ++ cv l b
theorem cf_sh {a : Int × Int} {l : PS} {q : Int} : cf (sh a l) q = a.2 * cf l (q - a.1) := by
  induction l with
  | nil => simp [sh, cf]
  | cons b l ih =>
    have e : sh a (b :: l) = (a.1 + b.1, a.2 * b.2) :: sh a l := rfl
    rw [e]
    simp only [cf, ih]
    by_cases z : a.1 + b.1 = q
    · rw [if_pos z, if_pos (by omega), Int.mul_add]
    · rw [if_neg z, if_neg (by omega), Int.zero_add, Int.zero_add]
theorem tot_sh {a : Int × Int} {l : PS} : tot (sh a l) = a.2 * tot l := by
  induction l with
  | nil => simp [sh, tot]
  | cons b l ih =>
    have e : sh a (b :: l) = (a.1 + b.1, a.2 * b.2) :: sh a l := rfl
    rw [e]
    simp only [tot, ih]
    rw [Int.mul_add]
theorem nm_sh {a : Int × Int} {l : PS} : nm (sh a l) = a.2.natAbs * nm l := by
  induction l with
  | nil => simp [sh, nm]
  | cons b l ih =>
    have e : sh a (b :: l) = (a.1 + b.1, a.2 * b.2) :: sh a l := rfl
    rw [e]
    simp only [nm, ih]
    rw [Nat.mul_add, Int.natAbs_mul]
theorem tot_cv {a b : PS} : tot (cv a b) = tot a * tot b := by
  induction a with
  | nil => simp [cv, tot]
  | cons x a ih => simp only [cv, tot_app, tot_sh, ih, tot]; rw [Int.add_mul]
theorem nm_cv {a b : PS} : nm (cv a b) = nm a * nm b := by
  induction a with
  | nil => simp [cv, nm]
  | cons x a ih => simp only [cv, nm_app, nm_sh, ih, nm]; rw [Nat.add_mul]
theorem len_cv {a b : PS} : (cv a b).length = a.length * b.length := by
  induction a with
  | nil => simp [cv]
  | cons x a ih => simp only [cv, List.length_append, ih, List.length_cons, sh, List.length_map]; rw [Nat.add_mul]; omega
theorem cf_cv_nil {a : PS} {q : Int} : cf (cv a []) q = 0 := by
  induction a with
  | nil => rfl
  | cons x a ih => simp only [cv, cf_app, ih, sh, List.map_nil, cf]; rfl
theorem cf_cv_cons {a b : PS} {x : Int × Int} {q : Int} : cf (cv a (x :: b)) q = x.2 * cf a (q - x.1) + cf (cv a b) q := by
  induction a with
  | nil => simp [cv, cf]
  | cons y a ih =>
    simp only [cv, cf_app, ih]
    have e : sh y (x :: b) = (y.1 + x.1, y.2 * x.2) :: sh y b := rfl
    rw [e]
    simp only [cf]
    by_cases z : y.1 + x.1 = q
    · rw [if_pos z, if_pos (by omega), Int.mul_add, Int.mul_comm y.2]; omega
    · rw [if_neg z, if_neg (by omega), Int.zero_add, Int.zero_add]; omega
theorem cf_comm {a b : PS} {q : Int} : cf (cv a b) q = cf (cv b a) q := by
  induction a with
  | nil => rw [cf_cv_nil]; rfl
  | cons x a ih => rw [cf_cv_cons]; simp only [cv, cf_app, cf_sh, ih]
theorem cv_cgR {a b b' : PS} (h : ∀ q, cf b q = cf b' q) (q : Int) : cf (cv a b) q = cf (cv a b') q := by
  induction a with
  | nil => rfl
  | cons x a ih => simp only [cv, cf_app, cf_sh, ih, h]
theorem cv_cgL {a a' b : PS} (h : ∀ q, cf a q = cf a' q) (q : Int) : cf (cv a b) q = cf (cv a' b) q := by
  rw [cf_comm, cv_cgR h, cf_comm]
theorem cv_app {a b c : PS} : cv (a ++ b) c = cv a c ++ cv b c := by
  induction a with
  | nil => rfl
  | cons x a ih => simp only [List.cons_append, cv, ih, List.append_assoc]
theorem cv_sh {x : Int × Int} {b c : PS} {q : Int} : cf (cv (sh x b) c) q = x.2 * cf (cv b c) (q - x.1) := by
  induction b with
  | nil => simp [sh, cv, cf]
  | cons y b ih =>
    have e : sh x (y :: b) = (x.1 + y.1, x.2 * y.2) :: sh x b := rfl
    rw [e]
    simp only [cv, cf_app, cf_sh, ih]
    rw [Int.mul_add, Int.mul_assoc]
    have : q - (x.1 + y.1) = q - x.1 - y.1 := by omega
    rw [this]
theorem cv_assoc {a b c : PS} {q : Int} : cf (cv (cv a b) c) q = cf (cv a (cv b c)) q := by
  induction a with
  | nil => rfl
  | cons x a ih => simp only [cv, cv_app, cf_app, cv_sh, cf_sh, ih]
/-- turned -/
def ng (l : PS) : PS := l.map fun p => (-p.1, p.2)
theorem cf_ng {l : PS} {q : Int} : cf (ng l) q = cf l (-q) := by
  induction l with
  | nil => rfl
  | cons p l ih =>
    have e : ng (p :: l) = (-p.1, p.2) :: ng l := rfl
    rw [e]
    simp only [cf, ih]
    by_cases z : -p.1 = q
    · rw [if_pos z, if_pos (by omega)]
    · rw [if_neg z, if_neg (by omega)]
theorem cv_ng {a b : PS} {q : Int} : cf (cv (ng a) (ng b)) q = cf (cv a b) (-q) := by
  induction a with
  | nil => rfl
  | cons x a ih =>
    have e : ng (x :: a) = (-x.1, x.2) :: ng a := rfl
    rw [e]
    simp only [cv, cf_app, cf_sh, ih, cf_ng]
    have : -(q - -x.1) = -q - x.1 := by omega
    rw [this]
end DL

namespace K16
open PySem PySem.Spec PyProof.Rows L2 DL
structure Pw (A N : Nat) (l : PS) : Prop where
  ok : Okp l
  pow : ∀ p ∈ l, p.1.natAbs ≤ A
  nmb : nm l ≤ N
theorem Pw.len {A N : Nat} {l : PS} (h : Pw A N l) : l.length ≤ N := Nat.le_trans (nm_len h.ok.nz) h.nmb
theorem Pw.num {A N : Nat} {l : PS} (h : Pw A N l) {p : Int × Int} (hp : p ∈ l) : p.2.natAbs ≤ N := Nat.le_trans (nm_mem hp) h.nmb
theorem Pw.up {A N A' N' : Nat} {l : PS} (h : Pw A N l) (ha : A ≤ A') (hn : N ≤ N') : Pw A' N' l := ⟨h.ok, fun p hp => Nat.le_trans (h.pow p hp) ha, Nat.le_trans h.nmb hn⟩
theorem told_p {D : PS} (nd : Nd D) (hl : D.length ≤ 1000000) : ∃ l, t_told_powers (dI D) = some l ∧ TldOf D l := by
  obtain ⟨l, e, h⟩ := told1 nd hl
  refine ⟨l, ?_, h⟩
  unfold t_told_powers
  rw [e]; rfl
theorem add_step {D : PS} {times : Int} {y : Int × Int} (nd : Nd D) (hl : D.length ≤ 1000000) (hm : times.natAbs < 2 ^ 64) : l0_added_powers times (dI D) y = some (dI (adI D y.1 (times * y.2))) := by
  have e1 := get2_I (k := y.1) nd
  have e2 : mulT times y.2 = some (times * y.2) := mulT_l hm
  have e3 := put_I (D := D) (k := y.1) (v := cf D y.1 + times * y.2) hl
  unfold l0_added_powers
  have ea : asI (eI (cf D y.1)) = some (cf D y.1) := rfl
  rw [e1, Option.bind_some, ea, Option.bind_some, e2, Option.bind_some, Option.bind_some, e3]; rfl
theorem add_loop {times : Int} (hm : times.natAbs < 2 ^ 64) : ∀ {other D : PS}, Nd D → D.length + other.length ≤ 1000000 → forP (l0_added_powers times) other (dI D) = some (dI (adL D (other.map fun p => (p.1, times * p.2))))
  | [], D, _, _ => rfl
  | y :: l, D, nd, hl => by
    rw [List.length_cons] at hl
    obtain ⟨h1, _, _, _, _, h6⟩ := adI_spec (k := y.1) (w := times * y.2) nd
    rw [forP_cons, add_step nd (by omega) hm, Option.bind_some, add_loop hm h1 (by omega)]; rfl
theorem nm_times {t : Int} {l : PS} : nm (l.map fun p => (p.1, t * p.2)) = t.natAbs * nm l := by
  induction l with
  | nil => simp [nm]
  | cons p l ih => rw [List.map_cons]; simp only [nm, ih]; rw [Nat.mul_add, Int.natAbs_mul]
theorem mul_step {D : PS} {y z : Int × Int} (nd : Nd D) (hl : D.length ≤ 1000000) (hm : y.2.natAbs < 2 ^ 64) : l0_multiplied_powers y (dI D) z = some (dI (adI D (y.1 + z.1) (y.2 * z.2))) := by
  have e1 := get2_I (k := y.1 + z.1) nd
  have e2 : mulT y.2 z.2 = some (y.2 * z.2) := mulT_l hm
  have e3 := put_I (D := D) (k := y.1 + z.1) (v := cf D (y.1 + z.1) + y.2 * z.2) hl
  unfold l0_multiplied_powers
  have ea : asI (eI (cf D (y.1 + z.1))) = some (cf D (y.1 + z.1)) := rfl
  rw [e1, Option.bind_some, ea, Option.bind_some, e2, Option.bind_some, Option.bind_some, e3]; rfl
theorem mul_loop0 {y : Int × Int} (hm : y.2.natAbs < 2 ^ 64) : ∀ {other D : PS}, Nd D → D.length + other.length ≤ 1000000 → forP (l0_multiplied_powers y) other (dI D) = some (dI (adL D (sh y other)))
  | [], D, _, _ => rfl
  | z :: l, D, nd, hl => by
    rw [List.length_cons] at hl
    obtain ⟨h1, _, _, _, _, h6⟩ := adI_spec (k := y.1 + z.1) (w := y.2 * z.2) nd
    rw [forP_cons, mul_step nd (by omega) hm, Option.bind_some, mul_loop0 hm h1 (by omega)]; rfl
theorem mul_loop {other : PS} : ∀ {one D : PS}, Nd D → (∀ p ∈ one, p.2.natAbs < 2 ^ 64) → D.length + one.length * other.length ≤ 1000000 → forP (l1_multiplied_powers other) one (dI D) = some (dI (adL D (cv one other)))
  | [], D, _, _, _ => rfl
  | y :: l, D, nd, hm, hl => by
    rw [List.length_cons, Nat.add_mul, Nat.one_mul] at hl
    obtain ⟨h1, _, _, _, _, h6⟩ := adL_spec (l := sh y other) nd
    have hs : (sh y other).length = other.length := by unfold sh; rw [List.length_map]
    have e : l1_multiplied_powers other (dI D) y = some (dI (adL D (sh y other))) := by
      unfold l1_multiplied_powers
      rw [Option.bind_some, mul_loop0 (hm y List.mem_cons_self) nd (by omega)]; rfl
    rw [forP_cons, e, Option.bind_some, mul_loop h1 (fun p hp => hm p (List.mem_cons_of_mem _ hp)) (by omega)]
    show _ = some (dI (adL D (sh y other ++ cv l other)))
    rw [adL_app]
theorem nd_nil : Nd [] := List.nodup_nil
theorem cv_key {a b : PS} {A B : Nat} (ha : ∀ p ∈ a, p.1.natAbs ≤ A) (hb : ∀ p ∈ b, p.1.natAbs ≤ B) : ∀ p ∈ cv a b, p.1.natAbs ≤ A + B := by
  induction a with
  | nil => intro p hp; cases hp
  | cons x a ih =>
    intro p hp
    rcases List.mem_append.mp hp with h | h
    · obtain ⟨y, hy, rfl⟩ := List.mem_map.mp h
      have h1 := ha x List.mem_cons_self
      have h2 := hb y hy
      dsimp only; omega
    · exact ih (fun q hq => ha q (List.mem_cons_of_mem _ hq)) p h
/-- the product -/
structure MulOf (A N : Nat) (a b l : PS) : Prop where
  pw : Pw A N l
  cf : ∀ q, cf l q = DL.cf (cv a b) q
  tot : tot l = DL.tot a * DL.tot b
theorem mul_of {A B N M : Nat} {a b l : PS} (ha : Pw A N a) (hb : Pw B M b) (h : TldOf (adL [] (cv a b)) l) : MulOf (A + B) (N * M) a b l := by
  obtain ⟨g1, g2, g3, g4, g5, g6⟩ := adL_spec (l := cv a b) nd_nil
  refine ⟨⟨h.ok, fun p hp => ?_, ?_⟩, fun q => ?_, ?_⟩
  · rcases g5 _ (h.sub p hp) with z | z
    · cases z
    · obtain ⟨x, hx, e⟩ := List.mem_map.mp z
      rw [← e]
      exact cv_key ha.pow hb.pow x hx
  · rw [h.nm]
    refine Nat.le_trans g4 ?_
    rw [nm_cv]
    simp only [nm, Nat.zero_add]
    exact Nat.mul_le_mul ha.nmb hb.nmb
  · rw [h.cf, g2]
    simp only [DL.cf, Int.zero_add]
  · rw [h.tot, g3, tot_cv]
    simp only [DL.tot, Int.zero_add]
theorem mul_p {A B N M : Nat} {a b : PS} (ha : Pw A N a) (hb : Pw B M b) (hl : N * M ≤ 1000000) (hN : N ≤ 1000000) : forP (l1_multiplied_powers b) a (PyData.dict []) = some (dI (adL [] (cv a b))) ∧ Nd (adL [] (cv a b)) ∧ (adL [] (cv a b)).length ≤ 1000000 := by
  obtain ⟨g1, g2, g3, g4, g5, g6⟩ := adL_spec (l := cv a b) nd_nil
  have hlen : a.length * b.length ≤ N * M := Nat.mul_le_mul ha.len hb.len
  rw [len_cv, List.length_nil, Nat.zero_add] at g6
  refine ⟨mul_loop (D := []) nd_nil (fun p hp => ?_) (by rw [List.length_nil]; omega), g1, by omega⟩
  have := ha.num hp
  omega
/-! ### turned, added up -/
def tn (l : PS) : PS := l.reverse.map fun p => (0 - p.1, p.2)
theorem tn_perm {l : PS} : (tn l).Perm (ng l) := by
  have e : (fun p : Int × Int => ((0 - p.1, p.2) : Int × Int)) = fun p => (-p.1, p.2) := by funext p; rw [Int.zero_sub]
  unfold tn ng
  rw [e]
  exact (List.reverse_perm l).map _
theorem tn_pw {A N : Nat} {l : PS} (h : Pw A N l) : Pw A N (tn l) ∧ (∀ q, cf (tn l) q = cf l (-q)) ∧ tot (tn l) = tot l := by
  obtain ⟨h1, h2, h3⟩ := perm_cf (tn_perm (l := l))
  have tn0 : tot (ng l) = tot l ∧ nm (ng l) = nm l := by
    unfold ng
    induction l with
    | nil => exact ⟨rfl, rfl⟩
    | cons p l ih =>
      have hl : Pw A N l := ⟨⟨(List.pairwise_cons.mp h.ok.pw).2, fun x hx => h.ok.nz x (List.mem_cons_of_mem _ hx)⟩, fun x hx => h.pow x (List.mem_cons_of_mem _ hx), by have := h.nmb; simp only [nm] at this; omega⟩
      obtain ⟨i1, i2⟩ := ih hl (perm_cf tn_perm).1 (perm_cf tn_perm).2.1 (perm_cf tn_perm).2.2
      rw [List.map_cons]
      exact ⟨by simp only [tot, i1], by simp only [nm, i2]⟩
  refine ⟨⟨⟨?_, fun p hp => ?_⟩, fun p hp => ?_, ?_⟩, fun q => by rw [h1, cf_ng], by rw [h2, tn0.1]⟩
  · unfold tn
    rw [List.pairwise_map, List.pairwise_reverse]
    exact h.ok.pw.imp fun h => by dsimp only; omega
  · obtain ⟨x, hx, rfl⟩ := List.mem_map.mp hp
    exact h.ok.nz x (List.mem_reverse.mp hx)
  · obtain ⟨x, hx, rfl⟩ := List.mem_map.mp hp
    have := h.pow x (List.mem_reverse.mp hx)
    dsimp only; omega
  · rw [h3, tn0.2]; exact h.nmb
theorem turned_ok {A N : Nat} {l : PS} (h : Pw A N l) (hN : N ≤ 1000000) : t_turned_powers l = some (tn l) := by
  have hlen := h.len
  have e1 : compG (fun (y : (Int × Int)) => (some true)) (fun (y : (Int × Int)) => (some ((-y.1), y.2))) l = some (ng l) := compG_all (fun y : Int × Int => (-y.1, y.2)) (by omega) fun _ _ => rfl
  have e2 : sortT (fun p q : Int × Int => decide (p.1 < q.1 ∨ (p.1 = q.1 ∧ p.2 ≤ q.2))) (ng l) = some ((ng l).mergeSort fun p q => decide (p.1 < q.1 ∨ (p.1 = q.1 ∧ p.2 ≤ q.2))) := if_pos (by unfold ng; rw [List.length_map]; omega)
  have hs := List.pairwise_mergeSort (le := fun p q : Int × Int => decide (p.1 < q.1 ∨ (p.1 = q.1 ∧ p.2 ≤ q.2))) (fun a b c h1 h2 => by
    simp only [decide_eq_true_eq] at *; omega) (fun a b => by
    simp only [Bool.or_eq_true, decide_eq_true_eq]; omega) (ng l)
  obtain ⟨p1, _, _⟩ := tn_pw h
  have pm : ((ng l).mergeSort fun p q => decide (p.1 < q.1 ∨ (p.1 = q.1 ∧ p.2 ≤ q.2))).Perm (tn l) := (List.mergeSort_perm _ _).trans tn_perm.symm
  have nd : Nd ((ng l).mergeSort fun p q => decide (p.1 < q.1 ∨ (p.1 = q.1 ∧ p.2 ≤ q.2))) := (pm.map _).nodup_iff.mpr p1.ok.nd
  have nm : ((ng l).mergeSort fun p q => decide (p.1 < q.1 ∨ (p.1 = q.1 ∧ p.2 ≤ q.2))).Pairwise fun p q => p.1 ≠ q.1 := List.pairwise_map.mp nd
  have e3 := pw_sameP ((hs.and nm).imp fun ⟨a, b⟩ => by
    have a := of_decide_eq_true a
    omega) p1.ok.pw fun x => pm.mem_iff
  unfold t_turned_powers
  rw [e1, Option.bind_some, e2, e3]; rfl
theorem sum_tot : ∀ l : PS, (l.map fun p => p.2).sum = tot l
  | [] => rfl
  | p :: l => by rw [List.map_cons, List.sum_cons, sum_tot l]; rfl
theorem sum_ok {l : PS} (hl : l.length ≤ 1000000) : t_sum_at_one l = some (tot l) := by
  have e1 : compG (fun (y : (Int × Int)) => (some true)) (fun (y : (Int × Int)) => (some y.2)) l = some (l.map fun p => p.2) := compG_all (fun y : Int × Int => y.2) (by omega) fun _ _ => rfl
  unfold t_sum_at_one
  rw [e1, Option.bind_some, sum_tot]
theorem rp_ps {A N : Nat} {l : PS} (h : Pw A N l) (hA : A ≤ 1000000) (hN : N ≤ 10000) : Rp 1500000 2 ((eT eP) l) := by
  have hl := h.len
  exact rp_map (m := 10000) (n := 147) (k := 1) (fun p hp => by
    have h1 := h.pow p hp
    have h2 := h.num hp
    exact rp_tup2 (rp_i (by omega)) (rp_i (by omega))) (by omega) (by decide)
def LOOPS : PS := [(-2, -1), (2, -1)]
theorem pw_loop : Pw 2 2 LOOPS := ⟨⟨by decide, by decide⟩, by decide, by decide⟩
theorem pw_one : Pw 0 1 [(0, 1)] := ⟨⟨by decide, by decide⟩, by decide, by decide⟩
end K16

namespace K16
open PySem PySem.Spec PyProof.Rows L2 DL
/-! ### repr: also of great ints; L: lists, no dicts; else empty dicts, no lists -/
mutual
def okM (L : Bool) : PyData → Bool
  | .none | .bool _ | .str _ => true
  | .int i => decide (i.natAbs < 2 ^ 200)
  | .list xs => L && okMA L xs
  | .tuple xs => okMA L xs
  | .dict kvs => !L && kvs.isEmpty
def okMA (L : Bool) : List PyData → Bool
  | [] => true
  | x :: xs => okM L x && okMA L xs
end
mutual
def szM : PyData → Nat
  | .none => 4
  | .bool _ => 5
  | .int _ => 70
  | .str x => (reprText x).length
  | .list xs | .tuple xs => szMA xs + 3
  | .dict _ => 2
def szMA : List PyData → Nat
  | [] => 0
  | x :: xs => szM x + 2 + szMA xs
end
theorem intText_leM {i : Int} (h : i.natAbs < 2 ^ 200) : ((toString i : String) : Str).length ≤ 70 := by
  have dl : ∀ n : Nat, n < 2 ^ 200 → (Nat.toDigits 10 n).length ≤ 64 := fun n hn => (Nat.length_toDigits_le_iff (by decide) (by decide)).mpr (Nat.lt_of_lt_of_le hn (by decide))
  have hs : ∀ n : Nat, n < 2 ^ 200 → (toString n : String).length ≤ 64 := fun n hn => by
    show (String.ofList (Nat.toDigits 10 n)).length ≤ 64
    rw [String.length_ofList]
    exact dl n hn
  rw [PySem.ofString_length]
  cases i with
  | ofNat n =>
    have := hs n h
    show (toString n : String).length ≤ 70
    omega
  | negSucc n =>
    have := hs (n + 1) h
    show ("-" ++ toString (n + 1) : String).length ≤ 70
    rw [String.length_append]
    have e1 : ("-" : String).length = 1 := rfl
    omega
mutual
theorem shown_leM {L : Bool} : ∀ {d : PyData}, okM L d = true → d.shown.length ≤ szM d
  | .none, _ => by
    unfold PyData.shown szM
    exact Nat.le_refl 4
  | .bool b, _ => by
    unfold PyData.shown szM
    cases b
    · exact Nat.le_refl 5
    · exact (by decide : 4 ≤ 5)
  | .int i, h => by
    unfold okM at h
    unfold PyData.shown szM
    exact intText_leM (of_decide_eq_true h)
  | .str x, _ => by
    unfold PyData.shown szM
    exact Nat.le_refl _
  | .list xs, h => by
    unfold okM at h
    rw [Bool.and_eq_true] at h
    unfold PyData.shown szM
    have := listText_le (PyData.shownAll xs)
    have := shownA_leM h.2
    omega
  | .tuple xs, h => by
    unfold okM at h
    unfold PyData.shown szM
    have := tupleText_le (PyData.shownAll xs)
    have := shownA_leM h
    omega
  | .dict kvs, h => by
    unfold okM at h
    rw [Bool.and_eq_true] at h
    cases kvs with
    | nil => unfold szM; exact Nat.le_refl 2
    | cons => cases h.2
theorem shownA_leM {L : Bool} : ∀ {ds : List PyData}, okMA L ds = true → piled (PyData.shownAll ds) ≤ szMA ds
  | [], _ => by
    unfold PyData.shownAll szMA
    exact Nat.le_refl 0
  | x :: xs, h => by
    unfold okMA at h
    rw [Bool.and_eq_true] at h
    unfold PyData.shownAll szMA
    rw [piled_cons]
    have := shown_leM h.1
    have := shownA_leM h.2
    omega
end
mutual
theorem okM_lay {L : Bool} : ∀ {d : PyData}, okM L d = true → d.showable = true ∧ layD d = true ∧ (L = true → d.hasDict = false) ∧ (L = false → noL d = true)
  | .none, _ => by simp only [PyData.showable, layD, PyData.hasDict, noL, and_self, implies_true]
  | .bool _, _ => by simp only [PyData.showable, layD, PyData.hasDict, noL, and_self, implies_true]
  | .str _, _ => by simp only [PyData.showable, layD, PyData.hasDict, noL, and_self, implies_true]
  | .int i, h => by
    unfold okM at h
    have h := of_decide_eq_true h
    refine ⟨?_, by simp only [layD], fun _ => by simp only [PyData.hasDict], fun _ => by simp only [noL]⟩
    unfold PyData.showable
    refine decide_eq_true ?_
    by_cases h0 : i.natAbs = 0
    · rw [h0]; decide
    · exact Nat.lt_trans ((Nat.log2_lt h0).mpr h) (by decide)
  | .list xs, h => by
    unfold okM at h
    rw [Bool.and_eq_true] at h
    obtain ⟨h1, h2, h3, h4⟩ := okMA_lay h.2
    exact ⟨by unfold PyData.showable; exact h1, by unfold layD; exact h2, fun z => by unfold PyData.hasDict; exact h3 z, fun z => by rw [h.1] at z; cases z⟩
  | .tuple xs, h => by
    unfold okM at h
    obtain ⟨h1, h2, h3, h4⟩ := okMA_lay h
    exact ⟨by unfold PyData.showable; exact h1, by unfold layD; exact h2, fun z => by unfold PyData.hasDict; exact h3 z, fun z => by unfold noL; exact h4 z⟩
  | .dict kvs, h => by
    unfold okM at h
    rw [Bool.and_eq_true] at h
    cases kvs with
    | nil => exact ⟨by unfold PyData.showable PyData.showableKv; rfl, by unfold layD; rfl, fun z => by rw [z] at h; exact absurd h.1 (by decide), fun _ => by unfold noL; rfl⟩
    | cons => cases h.2
theorem okMA_lay {L : Bool} : ∀ {ds : List PyData}, okMA L ds = true → PyData.showableAll ds = true ∧ layA ds = true ∧ (L = true → PyData.hasDictAll ds = false) ∧ (L = false → noLA ds = true)
  | [], _ => by simp only [PyData.showableAll, DL.layA, PyData.hasDictAll, noLA, and_self, implies_true]
  | x :: xs, h => by
    unfold okMA at h
    rw [Bool.and_eq_true] at h
    obtain ⟨a1, a2, a3, a4⟩ := okM_lay h.1
    obtain ⟨b1, b2, b3, b4⟩ := okMA_lay h.2
    refine ⟨by unfold PyData.showableAll; rw [a1, b1]; rfl, by unfold DL.layA; rw [a2, b2]; rfl, fun z => by unfold PyData.hasDictAll; rw [a3 z, b3 z]; rfl, fun z => by unfold noLA; rw [a4 z, b4 z]; rfl⟩
end
structure RpM (L : Bool) (n k : Nat) (d : PyData) : Prop where
  ok : okM L d = true
  sz : szM d ≤ n
  dep : d.depth ≤ k
theorem RpM.shows {L : Bool} {n k : Nat} {d : PyData} (h : RpM L n k d) (hn : n ≤ 16777216 := by decide) (hk : k ≤ 60 := by decide) : reprT d = some d.shown := by
  obtain ⟨h1, h2, h3, h4⟩ := okM_lay h.ok
  have h5 : d.shown.length ≤ sizeLine := Nat.le_trans (shown_leM h.ok) (Nat.le_trans h.sz (Nat.le_trans hn (by rw [sizeLine_eq]; decide)))
  refine reprT_ok ?_
  unfold reprOk
  rw [h1, h2, decide_eq_true h5, decide_eq_true (Nat.le_trans h.dep hk)]
  cases L with
  | true => rw [h3 rfl]; rfl
  | false => rw [h4 rfl]; simp
theorem RpM.up {L : Bool} {n k n' k' : Nat} {d : PyData} (h : RpM L n k d) (hn : n ≤ n' := by decide) (hk : k ≤ k' := by decide) : RpM L n' k' d := ⟨h.ok, Nat.le_trans h.sz hn, Nat.le_trans h.dep hk⟩
theorem rpM_all {L : Bool} {n k : Nat} : ∀ {ds : List PyData}, (∀ d ∈ ds, RpM L n k d) → okMA L ds = true ∧ szMA ds ≤ ds.length * (n + 2) ∧ PyData.depthAll ds ≤ k
  | [], _ => ⟨by unfold okMA; rfl, by unfold szMA; exact Nat.zero_le _, by simp⟩
  | d :: ds, h => by
    obtain ⟨a, b, c⟩ := rpM_all fun x hx => h x (List.mem_cons_of_mem _ hx)
    have hd := h d List.mem_cons_self
    refine ⟨by unfold okMA; rw [hd.ok, a]; rfl, ?_, ?_⟩
    · have e : (ds.length + 1) * (n + 2) = ds.length * (n + 2) + (n + 2) := Nat.succ_mul _ _
      have := hd.sz
      unfold szMA
      rw [List.length_cons, e]; omega
    · rw [depA_cons]; exact Nat.max_le.mpr ⟨hd.dep, c⟩
theorem rpM_tup {L : Bool} {n k m N : Nat} {ds : List PyData} (h : ∀ d ∈ ds, RpM L n k d) (hm : ds.length ≤ m) (hN : m * (n + 2) + 3 ≤ N) : RpM L N (k + 1) (.tuple ds) := by
  obtain ⟨a, b, c⟩ := rpM_all h
  refine ⟨by unfold okM; exact a, ?_, by rw [dep_t]; omega⟩
  unfold szM
  have := Nat.mul_le_mul_right (n + 2) hm
  omega
theorem rpM_lst {n k m N : Nat} {ds : List PyData} (h : ∀ d ∈ ds, RpM true n k d) (hm : ds.length ≤ m) (hN : m * (n + 2) + 3 ≤ N) : RpM true N (k + 1) (.list ds) := by
  obtain ⟨a, b, c⟩ := rpM_all h
  refine ⟨by unfold okM; rw [a]; rfl, ?_, by rw [dep_l]; omega⟩
  unfold szM
  have := Nat.mul_le_mul_right (n + 2) hm
  omega
theorem rpM_i {L : Bool} {i : Int} (h : i.natAbs < 2 ^ 200) : RpM L 70 0 (.int i) := ⟨by unfold okM; exact decide_eq_true h, by unfold szM; exact Nat.le_refl _, by simp⟩
def rpMB (L : Bool) (n k : Nat) (d : PyData) : Bool := okM L d && (decide (szM d ≤ n) && decide (d.depth ≤ k))
theorem rpM_dec {L : Bool} {n k : Nat} {d : PyData} (h : rpMB L n k d = true) : RpM L n k d := by
  unfold rpMB at h
  rw [Bool.and_eq_true, Bool.and_eq_true, decide_eq_true_iff, decide_eq_true_iff] at h
  exact ⟨h.1, h.2.1, h.2.2⟩
end K16

namespace K16
open PySem PySem.Spec PyProof.Rows L2 DL
theorem isum_step {y : PyData} : l0_is_power_sum () y = l0_law_is_sum () y := by
  cases y with
  | tuple xs =>
    match xs with
    | [] => rfl
    | [_] => rfl
    | [a, b] => cases a <;> cases b <;> rfl
    | _ :: _ :: _ :: r =>
      have h : decide (((r.length + 1 + 1 + 1 : Nat) : Int) = 2) = false := decide_eq_false (by omega)
      unfold l0_is_power_sum l0_law_is_sum
      show Option.bind (Option.bind (some (((r.length + 1 + 1 + 1 : Nat)) : Int)) fun x => some (!decide (x = 2))) _ = Option.bind (Option.bind (Option.bind (some (((r.length + 1 + 1 + 1 : Nat)) : Int)) fun x => some (!decide (x = 2))) _) _
      rw [Option.bind_some, h]; rfl
  | _ => rfl
theorem isum_same : t_is_power_sum = t_law_is_sum := by
  have e : l0_is_power_sum = l0_law_is_sum := by
    funext st y
    exact isum_step
  unfold t_is_power_sum t_law_is_sum
  rw [e]
/-- a pair of ints -/
def isP : PyData → Bool
  | .tuple [.int _, .int _] => true
  | _ => false
theorem isum_one {y : PyData} : (l0_is_power_sum () y = some (.nx ()) ∧ isP y = true) ∨ ∃ v, l0_is_power_sum () y = some (.rt v) ∧ True := by
  cases y with
  | tuple xs =>
    match xs with
    | [] => exact .inr ⟨false, rfl, trivial⟩
    | [_] => exact .inr ⟨false, rfl, trivial⟩
    | [a, b] =>
      cases a with
      | int i =>
        cases b with
        | int j =>
          by_cases z : j = 0
          · subst z; exact .inr ⟨false, rfl, trivial⟩
          · refine .inl ⟨?_, rfl⟩
            have h1 : Option.bind (eqE (eA (.int j)) (eI 0)) bOf = some false := by
              show some (j == 0) = some false
              rw [show (j == 0) = false from by simpa using z]
            have f1 : isiT (tyD (eA (.tuple [.int i, .int j]))) "tuple" = true := rfl
            have f2 : Option.bind (lenD [eA (.tuple [.int i, .int j])]) asI = some 2 := rfl
            have f4 : itsOf (.tuple [.int i, .int j]) = some [.int i, .int j] := rfl
            have f5 : compG (fun (y_1 : PyData) => (some true)) (fun (y_1 : PyData) => (some ((isiT (tyD (eA y_1)) "int") && (!(isiT (tyD (eA y_1)) "bool"))))) [.int i, .int j] = some [true, true] := rfl
            have f6 : List.all [true, true] id = true := rfl
            have f7 : itemD (eA (.tuple [.int i, .int j])) (eI 1) = some (.int j) := rfl
            unfold l0_is_power_sum
            simp -implicitDefEqProofs only [f1, f2, f4, f5, f6, f7, h1, decide_true, Bool.not_true, Bool.false_eq_true, if_false, Option.bind_some]
        | none => exact .inr ⟨false, rfl, trivial⟩
        | bool => exact .inr ⟨false, rfl, trivial⟩
        | str => exact .inr ⟨false, rfl, trivial⟩
        | list => exact .inr ⟨false, rfl, trivial⟩
        | tuple => exact .inr ⟨false, rfl, trivial⟩
        | dict => exact .inr ⟨false, rfl, trivial⟩
      | none => cases b <;> exact .inr ⟨false, rfl, trivial⟩
      | bool => cases b <;> exact .inr ⟨false, rfl, trivial⟩
      | str => cases b <;> exact .inr ⟨false, rfl, trivial⟩
      | list => cases b <;> exact .inr ⟨false, rfl, trivial⟩
      | tuple => cases b <;> exact .inr ⟨false, rfl, trivial⟩
      | dict => cases b <;> exact .inr ⟨false, rfl, trivial⟩
    | _ :: _ :: _ :: r =>
      refine .inr ⟨false, ?_, trivial⟩
      have h : decide (((r.length + 1 + 1 + 1 : Nat) : Int) = 2) = false := decide_eq_false (by omega)
      unfold l0_is_power_sum
      show Option.bind (Option.bind (some (((r.length + 1 + 1 + 1 : Nat)) : Int)) fun x => some (!decide (x = 2))) _ = _
      rw [Option.bind_some, h]; rfl
  | _ => exact .inr ⟨false, rfl, trivial⟩
theorem forC_one {α ρ : Type} {f : Unit → α → Option (Ctl ρ Unit)} {P : α → Prop} {Q : ρ → Prop} : ∀ {xs : List α}, (∀ x ∈ xs, (f () x = some (.nx ()) ∧ P x) ∨ ∃ v, f () x = some (.rt v) ∧ Q v) → (forC f xs () = some (.nx ()) ∧ ∀ x ∈ xs, P x) ∨ ∃ v, forC f xs () = some (.rt v) ∧ Q v
  | [], _ => .inl ⟨rfl, fun _ h => nomatch h⟩
  | x :: xs, h => by
    unfold forC
    rcases h x List.mem_cons_self with ⟨e, p⟩ | ⟨v, e, q⟩
    · rw [e, Option.bind_some]
      rcases forC_one (xs := xs) fun y hy => h y (List.mem_cons_of_mem _ hy) with ⟨e1, p1⟩ | ⟨v, e1, q1⟩
      · refine .inl ⟨e1, fun y hy => ?_⟩
        rcases List.mem_cons.mp hy with rfl | hy
        · exact p
        · exact p1 y hy
      · exact .inr ⟨v, e1, q1⟩
    · exact .inr ⟨v, by rw [e]; rfl, q⟩
def hdI : PyData → Int
  | .tuple (.int i :: _) => i
  | _ => 0
theorem isP_ex {y : PyData} (h : isP y = true) : ∃ i j, y = .tuple [.int i, .int j] := by
  unfold isP at h
  split at h
  · exact ⟨_, _, rfl⟩
  · cases h
theorem isum_ok {v : PyData} (hv : ∀ xs, v = .tuple xs → xs.length ≤ 1000) : ∃ b, t_is_power_sum v = some b ∧ t_law_is_sum v = some b := by
  rw [← isum_same]
  refine Exists.imp (fun b h => ⟨h, h⟩) ?_
  cases v with
  | tuple xs =>
    have hl := hv xs rfl
    unfold t_is_power_sum
    have h1 : isiT (tyD (eA (.tuple xs))) "tuple" = true := rfl
    have h2 : itsOf (.tuple xs) = some xs := rfl
    have h3 : Option.bind (lenD [eA (.tuple xs)]) asI = some (xs.length : Int) := rfl
    rw [h1, if_neg (by decide), h2, Option.bind_some]
    rcases forC_one (f := l0_is_power_sum) (P := fun y => isP y = true) (Q := fun _ => True) (xs := xs) fun x _ => isum_one with ⟨e, h⟩ | ⟨v, e, _⟩
    · rw [e, Option.bind_some, ctlK_nx]
      have e1 : rng2T 1 (xs.length : Int) = some ((List.range (xs.length - 1)).map fun k : Nat => 1 + (k : Int)) := rng2_of (by omega) (by omega) (by decide) (by omega)
      rw [h3, Option.bind_some, e1, Option.bind_some]
      rw [compG_some (fun y : Int => decide (hdI (xs.getD y.toNat .none) ≤ hdI (xs.getD (y.toNat - 1) .none))) (fun y => y) (by simp; omega) (fun y hy => ?_) fun _ _ _ => rfl]
      · exact ⟨_, rfl⟩
      · obtain ⟨k, hk, rfl⟩ := List.mem_map.mp hy
        have hk := List.mem_range.mp hk
        have a1 : (1 + (k : Int)) = ((k + 1 : Nat) : Int) := by omega
        have a2 : (1 + (k : Int)) - 1 = (k : Int) := by omega
        have a3 : (1 + (k : Int)).toNat = k + 1 := by omega
        have g : ∀ j (hj : j < xs.length), itemD (eA (.tuple xs)) (eI (j : Int)) = some xs[j] := fun j hj => by
          show atI xs (j : Int) = _
          rw [atN, List.getElem?_eq_getElem hj]
        obtain ⟨i1, j1, q1⟩ := isP_ex (h _ (List.getElem_mem (show k + 1 < xs.length by omega)))
        obtain ⟨i2, j2, q2⟩ := isP_ex (h _ (List.getElem_mem (show k < xs.length by omega)))
        rw [a2, a3, a1, g (k + 1) (by omega), g k (by omega), Option.bind_some, Option.bind_some, Nat.add_sub_cancel, List.getD_eq_getElem?_getD, List.getD_eq_getElem?_getD, List.getElem?_eq_getElem (show k + 1 < xs.length by omega), List.getElem?_eq_getElem (show k < xs.length by omega), Option.getD_some, Option.getD_some, q1, q2]
        rfl
    · rw [e, Option.bind_some]
      exact ⟨v, rfl⟩
  | _ => exact ⟨false, rfl⟩
end K16

namespace K16
open PySem PySem.Spec PyProof.Rows L2 DL
def oddL : List PyData := [.none, .bool true, .int 0, .int 1, .int (-1), .str "0", .tuple [], .tuple [.int 0], .tuple [.int 0, .int 0], .tuple [.int 3, .int 1], .list [.int 0], .dict [], .int 100000000000000000000]
def lenOk (w : PyData) : Prop := ∀ xs, w = .tuple xs → xs.length ≤ 1000
def Gd (N K : Nat) (w : PyData) : Prop := (∃ L, RpM L N K w) ∧ lenOk w
theorem Gd.up {N K N' K' : Nat} {w : PyData} (h : Gd N K w) (hn : N ≤ N') (hk : K ≤ K') : Gd N' K' w := ⟨h.1.imp fun L h => ⟨h.ok, Nat.le_trans h.sz hn, Nat.le_trans h.dep hk⟩, h.2⟩
theorem odd_gd : ∀ w ∈ oddL, Gd 200 2 w := fun w hw => by
  have h1 : oddL.all (fun w => rpMB true 200 2 w || rpMB false 200 2 w) = true := by decide +kernel
  have h := List.all_eq_true.mp h1 w hw
  refine ⟨?_, fun xs e => ?_⟩
  · rcases Bool.or_eq_true_iff.mp h with h | h
    · exact ⟨true, rpM_dec h⟩
    · exact ⟨false, rpM_dec h⟩
  · subst e
    unfold oddL at hw
    simp only [List.mem_cons, List.not_mem_nil, or_false, reduceCtorEq, false_or] at hw
    rcases hw with h | h | h | h <;> cases h <;> simp
theorem odd_of (s : Src) : ∃ w s', ofT oddL s = some (w, s') ∧ Gd 200 2 w := by
  obtain ⟨w, s', e, h⟩ := ofT_ex s (l := oddL) (by decide) (by decide)
  exact ⟨w, s', e, odd_gd w h⟩
theorem near_int {rc : PyData → List PyData → Src → Option (PyData × Src)} {p : Int} (hp : p.natAbs ≤ 1000000) (s : Src) : ∃ w s', ts_law_near rc (.int p) oddL s = some (w, s') ∧ Gd 200 2 w := by
  have f1 : t_law_is_int (.int p) = some true := rfl
  obtain ⟨v, s1, e1, _, _⟩ := pickT_ex s 3 (by decide)
  unfold ts_law_near
  simp -implicitDefEqProofs only [thn2_ap, lif_ap, f1, Option.map_some, Option.bind_some, if_true, e1, drw_some]
  by_cases q : 0 < v
  · rw [decide_eq_true q, if_pos rfl]
    obtain ⟨x, s2, e2, hx⟩ := ofT_ex s1 (l := ([1, (-1), 2] : List Int)) (by decide) (by decide)
    have f2 : addD (eA (.int p)) (eI x) = some (.int (p + x)) := rfl
    refine ⟨.int (p + x), s2, by simp -implicitDefEqProofs only [e2, f2, Option.map_some, Option.bind_some, drw_some], ⟨true, (rpM_i ?_).up⟩, fun xs e => nomatch e⟩
    simp only [List.mem_cons, List.not_mem_nil, or_false] at hx
    omega
  · rw [decide_eq_false q, if_neg (by decide)]
    have f3 : isiT (tyD (eA (.int p))) "tuple" = false := rfl
    obtain ⟨w, s2, e2, hw⟩ := odd_of s1
    exact ⟨w, s2, by simp -implicitDefEqProofs only [f3, e2, Bool.not_false, if_true, Option.map_some, Option.bind_some, drw_some], hw⟩
theorem eq_nil {xs : List PyData} : Option.bind (eqE (eA (.tuple xs)) ((eT eI) ([] : List Int))) bOf = some xs.isEmpty := by
  show Option.bind (eqE (.tuple xs) (.tuple [])) bOf = _
  unfold eqE
  rw [eqD_t]
  split
  · rename_i h
    split at h
    · cases h
      cases xs with
      | nil => rfl
      | cons => simp [bOf]
    · cases h
  · rename_i h
    show Option.bind (Option.map _ (if xs = [] ∨ ([] : List PyData) = [] then some (decide (xs.length = ([] : List PyData).length)) else none)) bOf = _
    rw [if_pos (.inr rfl)]
    cases xs with
    | nil => rfl
    | cons => simp [bOf]
theorem addD_t {xs ys : List PyData} (h : xs.length + ys.length ≤ 100) : addD (eA (.tuple xs)) (.tuple ys) = some (.tuple (xs ++ ys)) := by
  have : 100 ≤ sizeLine := by decide
  show (if xs.length + ys.length ≤ sizeLine then some (PyData.tuple (xs ++ ys)) else none) = _
  rw [if_pos (by omega)]
theorem sl_to {xs : List PyData} {k : Nat} : sliceD none (some (k : Int)) (.tuple xs) = some (.tuple (xs.take k)) := by
  have : cutT xs none (some (k : Int)) = xs.take k := cutN_to
  show some (PyData.tuple (cutT xs none (some (k : Int)))) = _
  rw [this]
theorem sl_from {xs : List PyData} {k : Nat} : sliceD (some (k : Int)) none (.tuple xs) = some (.tuple (xs.drop k)) := by
  have : cutT xs (some (k : Int)) none = xs.drop k := cutN_from
  show some (PyData.tuple (cutT xs (some (k : Int)) none)) = _
  rw [this]
theorem near_tup {rc : PyData → List PyData → Src → Option (PyData × Src)} {xs : List PyData} {N K : Nat} (hN : 200 ≤ N) (hK : 2 ≤ K) (hl : xs.length ≤ 40) (hx : ∀ x ∈ xs, ∀ L, RpM L N K x) (hr : ∀ x ∈ xs, ∀ s, ∃ w s', rc x oddL s = some (w, s') ∧ Gd N K w) (s : Src) : ∃ w s', ts_law_near rc (.tuple xs) oddL s = some (w, s') ∧ Gd (45 * (N + 2) + 3) (K + 1) w := by
  have u1 : t_law_is_int (.tuple xs) = some false := rfl
  have u2 : isiT (tyD (eA (.tuple xs))) "tuple" = true := rfl
  have u3 : Option.bind (lenD [eA (.tuple xs)]) asI = some (xs.length : Int) := rfl
  have up : ∀ w, Gd 200 2 w → Gd (45 * (N + 2) + 3) (K + 1) w := fun w h => h.up (by omega) (by omega)
  cases hxs : xs with
  | nil =>
    obtain ⟨w, s2, e2, hw⟩ := odd_of s
    refine ⟨w, s2, ?_, up w hw⟩
    have g1 : t_law_is_int (.tuple []) = some false := rfl
    have g2 : isiT (tyD (eA (.tuple []))) "tuple" = true := rfl
    have g3 : Option.bind (eqE (eA (.tuple [])) ((eT eI) ([] : List Int))) bOf = some true := eq_nil
    unfold ts_law_near
    simp -implicitDefEqProofs only [thn2_ap, lif_ap, g1, g2, g3, e2, Option.map_some, Option.bind_some, Bool.not_true, Bool.false_eq_true, if_false, if_true, drw_some]
  | cons x0 r0 =>
  rw [← hxs]
  have ne : xs.isEmpty = false := by rw [hxs]; rfl
  have u4 : Option.bind (eqE (eA (.tuple xs)) ((eT eI) ([] : List Int))) bOf = some false := by rw [eq_nil, ne]
  have pos : 0 < xs.length := by rw [hxs]; simp
  obtain ⟨v, s1, e1, _, _⟩ := pickT_ex s 7 (by decide)
  unfold ts_law_near
  simp -implicitDefEqProofs only [thn2_ap, lif_ap, u1, u2, u4, e1, Option.map_some, Option.bind_some, Bool.not_true, Bool.false_eq_true, if_false, drw_some]
  by_cases q : v = 0
  · rw [decide_eq_true q, if_pos rfl]
    obtain ⟨w, s2, e2, hw⟩ := odd_of s1
    exact ⟨w, s2, by simp -implicitDefEqProofs only [e2, drw_some], up w hw⟩
  · rw [decide_eq_false q, if_neg (by decide)]
    obtain ⟨k0, s2, e2, k1, k2⟩ := pickT_ex s1 (xs.length : Int) (by omega)
    obtain ⟨k, rfl⟩ : ∃ k : Nat, k0 = (k : Int) := ⟨k0.toNat, by omega⟩
    have hk : k < xs.length := by omega
    obtain ⟨way, s3, e3, _, _⟩ := pickT_ex s2 6 (by decide)
    have c1 : ((k : Int) + 1) = ((k + 1 : Nat) : Int) := by omega
    simp -implicitDefEqProofs only [u3, e2, e3, Option.map_some, Option.bind_some, drw_some]
    have part : ∀ (ys : List PyData), (∀ y ∈ ys, y ∈ xs) → ys.length ≤ 45 → ∀ L, RpM L (45 * (N + 2) + 3) (K + 1) (.tuple ys) := fun ys h1 h2 L => rpM_tup (m := 45) (fun d hd => hx d (h1 d hd) L) h2 (Nat.le_refl _)
    by_cases q2 : way < 4
    · rw [decide_eq_true q2, if_pos rfl]
      obtain ⟨w, s4, e4, ⟨L, hw⟩, _⟩ := hr xs[k] (List.getElem_mem hk) s3
      have u5 : itemD (eA (.tuple xs)) (eI (k : Int)) = some xs[k] := by
        show atI xs (k : Int) = _
        rw [atN, List.getElem?_eq_getElem hk]
      have lt := List.length_take (i := k) (l := xs)
      have ld := List.length_drop (i := k + 1) (l := xs)
      have u6 : addD (eA (.tuple (xs.take k))) ((eTu (f1 eA)) w) = some (.tuple (xs.take k ++ [w])) := addD_t (by simp; omega)
      have u7 : addD (eA (.tuple (xs.take k ++ [w]))) (eA (.tuple (xs.drop (k + 1)))) = some (.tuple (xs.take k ++ [w] ++ xs.drop (k + 1))) := addD_t (by rw [List.length_append]; simp; omega)
      refine ⟨.tuple (xs.take k ++ [w] ++ xs.drop (k + 1)), s4, ?_, ⟨L, rpM_tup (m := 45) (n := N) (k := K) (fun d hd => ?_) (by rw [List.length_append, List.length_append]; simp; omega) (Nat.le_refl _)⟩, fun ys e => ?_⟩
      · rw [c1]
        simp -implicitDefEqProofs only [sl_to, sl_from, u5, u6, u7, e4, Option.map_some, Option.bind_some, drw_some]
      · rcases List.mem_append.mp hd with h | h
        · rcases List.mem_append.mp h with h | h
          · exact hx d (List.mem_of_mem_take h) L
          · rw [List.mem_singleton.mp h]; exact hw
        · exact hx d (List.mem_of_mem_drop h) L
      · cases e
        rw [List.length_append, List.length_append]
        simp; omega
    · rw [decide_eq_false q2, if_neg (by decide)]
      have lt := List.length_take (i := k) (l := xs)
      have lt1 := List.length_take (i := k + 1) (l := xs)
      have ld := List.length_drop (i := k + 1) (l := xs)
      have ld0 := List.length_drop (i := k) (l := xs)
      have u6 : addD (eA (.tuple (xs.take k))) (eA (.tuple (xs.drop (k + 1)))) = some (.tuple (xs.take k ++ xs.drop (k + 1))) := addD_t (by omega)
      have u7 : addD (eA (.tuple (xs.take (k + 1)))) (eA (.tuple (xs.drop k))) = some (.tuple (xs.take (k + 1) ++ xs.drop k)) := addD_t (by omega)
      have u8 : revTD none (.tuple xs) = some (.tuple xs.reverse) := by
        have : revT xs none = xs.reverse := revT_all
        show some (PyData.tuple (revT xs none)) = _
        rw [this]
      have u9 : listD [.tuple xs] = some (.list xs) := rfl
      obtain ⟨w, s4, e4, hw⟩ := ofT_ex s3 (l := [PyData.tuple (xs.take k ++ xs.drop (k + 1)), PyData.tuple (xs.take (k + 1) ++ xs.drop k), PyData.tuple xs.reverse, PyData.list xs]) (by simp) (by simp)
      refine ⟨w, s4, ?_, ?_⟩
      · rw [c1]
        simp -implicitDefEqProofs only [sl_to, sl_from, u6, u7, u8, u9, e4, Option.map_some, Option.bind_some, drw_some]
      · simp only [List.mem_cons, List.not_mem_nil, or_false] at hw
        rcases hw with rfl | rfl | rfl | rfl
        · refine ⟨⟨true, part _ (fun y hy => ?_) (by rw [List.length_append]; omega) true⟩, fun ys e => ?_⟩
          · rcases List.mem_append.mp hy with h | h
            · exact List.mem_of_mem_take h
            · exact List.mem_of_mem_drop h
          · cases e; rw [List.length_append]; omega
        · refine ⟨⟨true, part _ (fun y hy => ?_) (by rw [List.length_append]; omega) true⟩, fun ys e => ?_⟩
          · rcases List.mem_append.mp hy with h | h
            · exact List.mem_of_mem_take h
            · exact List.mem_of_mem_drop h
          · cases e; rw [List.length_append]; omega
        · refine ⟨⟨true, part _ (fun y hy => List.mem_reverse.mp hy) (by rw [List.length_reverse]; omega) true⟩, fun ys e => ?_⟩
          cases e; rw [List.length_reverse]; omega
        · exact ⟨⟨true, rpM_lst (m := 45) (fun d hd => hx d hd true) (by omega) (Nat.le_refl _)⟩, fun ys e => nomatch e⟩
theorem near_ok {A N : Nat} {l : PS} (h : Pw A N l) (hA : A ≤ 1000000) (hN : N ≤ 1000000) (hl : l.length ≤ 40) (s : Src) : ∃ w s', t_law_near 8 ((eT eP) l) oddL s = some (w, s') ∧ Gd 500000 4 w := by
  have i8 : t_law_near 8 = ts_law_near (t_law_near 7) := rfl
  have i7 : t_law_near 7 = ts_law_near (t_law_near 6) := rfl
  have i6 : t_law_near 6 = ts_law_near (t_law_near 5) := rfl
  rw [i8]
  have ri : ∀ i : Int, i.natAbs ≤ 1000000 → ∀ L, RpM L 200 2 (.int i) := fun i hi L => (rpM_i (by omega)).up
  obtain ⟨w, s', e, g⟩ := near_tup (rc := t_law_near 7) (xs := l.map eP) (N := 9093) (K := 3) (by decide) (by decide) (by rw [List.length_map]; exact hl) (fun x hx L => by
    obtain ⟨p, hp, rfl⟩ := List.mem_map.mp hx
    have h1 := h.pow p hp
    have h2 := h.num hp
    exact rpM_tup (m := 2) (n := 200) (k := 2) (fun d hd => by
      simp only [List.mem_cons, List.not_mem_nil, or_false] at hd
      rcases hd with rfl | rfl
      · exact ri _ (by omega) L
      · exact ri _ (by omega) L) (by simp) (by decide)) (fun x hx s => by
    obtain ⟨p, hp, rfl⟩ := List.mem_map.mp hx
    have h1 := h.pow p hp
    have h2 := h.num hp
    rw [i7]
    exact near_tup (rc := t_law_near 6) (xs := [.int p.1, .int p.2]) (N := 200) (K := 2) (by decide) (by decide) (by simp) (fun x hx L => by
      simp only [List.mem_cons, List.not_mem_nil, or_false] at hx
      rcases hx with rfl | rfl
      · exact ri _ (by omega) L
      · exact ri _ (by omega) L) (fun x hx s => by
      rw [i6]
      simp only [List.mem_cons, List.not_mem_nil, or_false] at hx
      rcases hx with rfl | rfl
      · exact near_int (by omega) s
      · exact near_int (by omega) s) s) s
  exact ⟨w, s', e, g.up (by decide) (by decide)⟩
end K16

namespace K16
open PySem PySem.Spec PyProof.Rows L2 DL
theorem told_l {D : PS} (nd : Nd D) (hl : D.length ≤ 1000000) : ∃ l, t_law_told (dI D) = some l ∧ TldOf D l := by
  obtain ⟨l, e, h⟩ := told2 nd hl
  refine ⟨l, ?_, h⟩
  unfold t_law_told
  rw [e]; rfl
theorem both_told {D : PS} (nd : Nd D) (hl : D.length ≤ 1000000) : ∃ l, t_told_powers (dI D) = some l ∧ t_law_told (dI D) = some l ∧ TldOf D l := by
  obtain ⟨l, e, h⟩ := told_p nd hl
  obtain ⟨l', e', h'⟩ := told_l nd hl
  have := h.same h' fun _ => rfl
  subst this
  exact ⟨l, e, e', h⟩
theorem ladd_eq : l0_law_added = l0_added_powers := rfl
theorem lmul_eq : l1_law_times = l1_multiplied_powers := rfl
theorem added_ok {A B N M : Nat} {a b : PS} {t : Int} (ha : Pw A N a) (hb : Pw B M b) (ht : t.natAbs ≤ 4) (hN : N + 4 * M ≤ 100000) : ∃ l, t_added_powers a b t = some l ∧ t_law_added a b t = some l ∧ Pw (A + B) (N + 4 * M) l := by
  have la := ha.len
  have lb := hb.len
  have e1 := dTT_ok ha.ok.nd
  have e2 := add_loop (times := t) (by omega) (other := b) (D := a) ha.ok.nd (by omega)
  obtain ⟨g1, g2, g3, g4, g5, g6⟩ := adL_spec (l := b.map fun p => (p.1, t * p.2)) ha.ok.nd
  rw [List.length_map] at g6
  obtain ⟨l, e3, e4, h⟩ := both_told g1 (by omega)
  refine ⟨l, ?_, ?_, ⟨h.ok, fun p hp => ?_, ?_⟩⟩
  · unfold t_added_powers
    rw [e1, Option.bind_some, Option.bind_some, e2, Option.bind_some, e3]
  · unfold t_law_added
    rw [ladd_eq, e1, Option.bind_some, Option.bind_some, e2, Option.bind_some, e4]
  · rcases g5 _ (h.sub p hp) with z | z
    · obtain ⟨x, hx, e⟩ := List.mem_map.mp z
      have := ha.pow x hx
      rw [← e]; omega
    · obtain ⟨x, hx, e⟩ := List.mem_map.mp z
      obtain ⟨y, hy, rfl⟩ := List.mem_map.mp hx
      have := hb.pow y hy
      rw [← e]; dsimp only; omega
  · rw [h.nm]
    refine Nat.le_trans g4 ?_
    rw [nm_times]
    have := ha.nmb
    have := Nat.mul_le_mul ht hb.nmb
    omega
theorem mul_ok {A B N M : Nat} {a b : PS} (ha : Pw A N a) (hb : Pw B M b) (hl : N * M ≤ 1000000) (hN : N ≤ 1000000) : ∃ l, t_multiplied_powers a b = some l ∧ t_law_times a b = some l ∧ MulOf (A + B) (N * M) a b l := by
  obtain ⟨e, nd, hlen⟩ := mul_p ha hb hl hN
  obtain ⟨l, e2, e3, h⟩ := both_told nd hlen
  refine ⟨l, ?_, ?_, mul_of ha hb h⟩
  · unfold t_multiplied_powers
    rw [Option.bind_some, Option.bind_some, e, Option.bind_some, e2]
  · unfold t_law_times
    rw [lmul_eq, Option.bind_some, Option.bind_some, e, Option.bind_some, e3]
theorem MulOf.same {A N A' N' : Nat} {a b a' b' l l' : PS} (h : MulOf A N a b l) (h' : MulOf A' N' a' b' l') (e : ∀ q, DL.cf (cv a b) q = DL.cf (cv a' b') q) : l = l' := h.pw.ok.eq h'.pw.ok fun q => by rw [h.cf, h'.cf, e]
theorem loops_go : ∀ {xs : List Int} {st : PS} {A N : Nat}, Pw A N st → N * 2 ^ xs.length ≤ 10000 → ∃ l, forP l0_loops_taken xs st = some l ∧ forP l0_law_loops xs st = some l ∧ Pw (A + 2 * xs.length) (N * 2 ^ xs.length) l
  | [], st, A, N, h, _ => ⟨st, rfl, rfl, h.up (by omega) (by simp)⟩
  | x :: xs, st, A, N, h, hl => by
    rw [List.length_cons, Nat.pow_succ] at hl
    have hx : N * (2 ^ xs.length * 2) = N * 2 * 2 ^ xs.length := by rw [Nat.mul_comm (2 ^ xs.length) 2, Nat.mul_assoc]
    have hp : 0 < 2 ^ xs.length := Nat.pow_pos (by decide)
    have hN : N * 2 ≤ 10000 := by
      rw [hx] at hl
      exact Nat.le_trans (Nat.le_mul_of_pos_right _ hp) hl
    obtain ⟨l, e1, e2, m⟩ := mul_ok h pw_loop (by omega) (by omega)
    obtain ⟨l', e3, e4, h'⟩ := loops_go (xs := xs) m.pw (by rw [← hx]; exact hl)
    have s1 : l0_loops_taken st x = some l := by
      have e1 : t_multiplied_powers st [((-2), (-1)), ((2), (-1))] = some l := e1
      unfold l0_loops_taken
      rw [e1]; rfl
    have s2 : l0_law_loops st x = some l := by
      have e2 : t_law_times st [((-2), (-1)), (2, (-1))] = some l := e2
      unfold l0_law_loops
      rw [e2]; rfl
    refine ⟨l', by rw [forP_cons, s1, Option.bind_some, e3], by rw [forP_cons, s2, Option.bind_some, e4], h'.up (by rw [List.length_cons]; omega) (by rw [List.length_cons, Nat.pow_succ, hx]; exact Nat.le_refl _)⟩
theorem loops_ok {k : Nat} (hk : k ≤ 12) : ∃ l, t_loops_taken (k : Int) = some l ∧ t_law_loops (k : Int) = some l ∧ Pw 24 4096 l := by
  have e0 : rng1T (k : Int) = some ((List.range k).map fun k : Nat => (k : Int)) := rng1_ok (by omega)
  have hp : 2 ^ k ≤ 2 ^ 12 := Nat.pow_le_pow_right (by decide) hk
  obtain ⟨l, e1, e2, h⟩ := loops_go (xs := (List.range k).map fun k : Nat => (k : Int)) pw_one (by rw [List.length_map, List.length_range]; omega)
  rw [List.length_map, List.length_range] at h
  refine ⟨l, ?_, ?_, h.up (by omega) (by omega)⟩
  · unfold t_loops_taken
    rw [Option.bind_some, e0, Option.bind_some, e1]; rfl
  · unfold t_law_loops
    rw [Option.bind_some, e0, Option.bind_some, e2]; rfl
theorem sum_drawn (s : Src) (many far : Nat) (hm : many ≤ 10) (hf : far ≤ 1000) : ∃ l s', t_law_sum (many : Int) (far : Int) s = some (l, s') ∧ Pw far (7 * many) l ∧ l.length ≤ many := by
  obtain ⟨k0, s1, e1, x0, x1⟩ := pickT_ex s ((many : Int) + 1) (by omega)
  obtain ⟨k, rfl⟩ : ∃ k : Nat, k0 = (k : Int) := ⟨k0.toNat, by omega⟩
  have e0 : rng1T (k : Int) = some ((List.range k).map fun k : Nat => (k : Int)) := rng1_ok (by omega)
  have em : mulT 2 (far : Int) = some (2 * (far : Int)) := mulT_l (by decide)
  obtain ⟨st, e2, D, hD, nd, hn, hl, hkey⟩ := forP_inv (f := l0_law_sum (far : Int)) (fun j (st : Src × PyData) => ∃ D, st.2 = dI D ∧ Nd D ∧ nm D ≤ 7 * j ∧ D.length ≤ j ∧ ∀ x ∈ D.map (·.1), x.natAbs ≤ far) (xs := (List.range k).map fun k : Nat => (k : Int)) (s := (s1, PyData.dict [])) (k := 0) ⟨[], rfl, nd_nil, by simp [nm], by simp, (fun _ h => nomatch h)⟩ fun j x st hj hst => by
      obtain ⟨D, hD, nd, hn, hl, hkey⟩ := hst
      have hj' : j < k := by
        have := (List.getElem?_eq_some_iff.mp hj).1
        simpa using this
      obtain ⟨v, t1, f1, hv⟩ := ofT_ex st.1 (l := ([1, (-1), 2, (-3), 7] : List Int)) (by decide) (by decide)
      obtain ⟨p, t2, f2, p0, p1⟩ := pickT_ex t1 (2 * (far : Int) + 1) (by omega)
      obtain ⟨g1, g2, g3, g4, g5, g6⟩ := ptI_spec (k := p - far) (v := v) nd
      have hv7 : v.natAbs ≤ 7 := by
        simp only [List.mem_cons, List.not_mem_nil, or_false] at hv
        omega
      have f3 := put_I (D := D) (k := p - far) (v := v) (by omega)
      refine ⟨(t2, dI (ptI D (p - far) v)), ?_, _, rfl, g1, by omega, by omega, fun x hx => ?_⟩
      · unfold l0_law_sum
        simp -implicitDefEqProofs only [thn2_ap, lif_ap, f1, em, f2, hD, f3, Option.map_some, Option.bind_some, drw_some]
      · rcases g5 x hx with h | h
        · exact hkey x h
        · rw [h]; omega
  rw [List.length_map, List.length_range, Nat.zero_add] at hn hl
  obtain ⟨l, e3, h⟩ := told_l nd (by omega)
  refine ⟨l, st.1, ?_, ⟨h.ok, fun p hp => hkey _ (h.sub p hp), by rw [h.nm]; omega⟩, by have := h.len; omega⟩
  unfold t_law_sum
  simp -implicitDefEqProofs only [thn2_ap, lif_ap, e1, e0, e2, hD, e3, Option.map_some, Option.bind_some, drw_some]
theorem rpL_ps {L : Bool} {A N : Nat} {l : PS} (h : Pw A N l) (hA : A ≤ 1000000) (hN : N ≤ 1000000) (hl : l.length ≤ 50) : RpM L 8000 2 ((eT eP) l) := rpM_tup (m := 50) (n := 147) (k := 1) (fun d hd => by
  obtain ⟨p, hp, rfl⟩ := List.mem_map.mp hd
  have h1 := h.pow p hp
  have h2 := h.num hp
  exact rpM_tup (m := 2) (n := 70) (k := 0) (fun d hd => by
    simp only [List.mem_cons, List.not_mem_nil, or_false] at hd
    rcases hd with rfl | rfl
    · exact rpM_i (by omega)
    · exact rpM_i (by omega)) (by simp) (by decide)) (by rw [List.length_map]; exact hl) (by decide)
theorem rpL_list {L : List PS} (h : ∀ l ∈ L, Rp 1500000 2 ((eT eP) l)) (hl : L.length ≤ 4) : ∃ s, reprT ((eL (eT eP)) L) = some s := ⟨_, (rp_lst (m := 4) (N := 6000100) (fun d hd => by
  obtain ⟨l, hl, rfl⟩ := List.mem_map.mp hd
  exact h l hl) (by rw [List.length_map]; exact hl) (by decide)).shows (by decide) (by decide)⟩
theorem value_ok {v : PyData} (h : Gd 500000 4 v) : l1_law () v = some (.nx ()) := by
  obtain ⟨⟨L, g⟩, hl⟩ := h
  obtain ⟨b, e1, e2⟩ := isum_ok hl
  have e3 : reprT (eA v) = some v.shown := g.shows
  have e4 : reprT (eB b) = some (PyData.bool b).shown := reprT_b
  have d1 : decide ((PyData.bool b).shown = (PyData.bool b).shown) = true := decide_eq_true rfl
  have d2 : decide (v.shown = v.shown) = true := decide_eq_true rfl
  unfold l1_law
  simp -implicitDefEqProofs only [e1, e2, e3, e4, d1, d2, decide_true, Bool.not_true, Bool.false_eq_true, if_false, Option.bind_some]
end K16

namespace K16
open PySem PySem.Spec PyProof.Rows L2 DL
theorem repr_ps {A N : Nat} {l : PS} (h : Pw A N l) (hA : A ≤ 1000000) (hN : N ≤ 10000) : ∃ s, reprT ((eT eP) l) = some s := ⟨_, (rp_ps h hA hN).shows (by decide) (by decide)⟩
theorem lap_ok (s : Src) (y : Int) : ∃ s', l2_law oddL s y = some (.nx s') := by
  obtain ⟨one, s1, a1, p1, l1⟩ := sum_drawn s 5 12 (by decide) (by decide)
  obtain ⟨other, s2, a2, p2, l2⟩ := sum_drawn s1 4 9 (by decide) (by decide)
  obtain ⟨third, s3, a3, p3, l3⟩ := sum_drawn s2 3 1000 (by decide) (by decide)
  have a1 : t_law_sum 5 12 s = some (one, s1) := a1
  have a2 : t_law_sum 4 9 s1 = some (other, s2) := a2
  have a3 : t_law_sum 3 1000 s2 = some (third, s3) := a3
  obtain ⟨x6, r0⟩ := rpL_list (L := [one, other, third]) (fun l hl => by
    simp only [List.mem_cons, List.not_mem_nil, or_false] at hl
    rcases hl with rfl | rfl | rfl
    · exact rp_ps p1 (by decide) (by decide)
    · exact rp_ps p2 (by decide) (by decide)
    · exact rp_ps p3 (by decide) (by decide)) (by simp)
  obtain ⟨t0, s4, e1, t1, t2⟩ := pickT_ex s3 9 (by decide)
  obtain ⟨ad, b1, b2, pad⟩ := added_ok p1 p2 (t := t0 - 4) (by omega) (by decide)
  obtain ⟨x8, rad⟩ := repr_ps pad (by decide) (by decide)
  obtain ⟨both, m1, m2, M1⟩ := mul_ok p1 p2 (by decide) (by decide)
  obtain ⟨x9, rb⟩ := repr_ps M1.pw (by decide) (by decide)
  obtain ⟨bo2, m3, _, M2⟩ := mul_ok p2 p1 (by decide) (by decide)
  have q1 : bo2 = both := M2.same M1 fun q => cf_comm
  subst q1
  obtain ⟨w1, m4, _, M3⟩ := mul_ok M1.pw p3 (by decide) (by decide)
  obtain ⟨w2, m5, _, M4⟩ := mul_ok p2 p3 (by decide) (by decide)
  obtain ⟨w3, m6, _, M5⟩ := mul_ok p1 M4.pw (by decide) (by decide)
  have q2 : w1 = w3 := M3.same M5 fun q => by rw [cv_cgL (fun q => M1.cf q) q, cv_cgR (fun q => M4.cf q) q, cv_assoc]
  subst q2
  have tu : compG (fun (y_1 : (Int × Int)) => (some true)) (fun (y_1 : (Int × Int)) => (some ((0 - y_1.1), y_1.2))) (revT one none) = some (tn one) := by
    have e : revT one none = one.reverse := revT_all
    rw [e, compG_all (fun y : Int × Int => (0 - y.1, y.2)) (by rw [List.length_reverse]; omega) fun _ _ => rfl]
    rfl
  obtain ⟨pt1, ct1, _⟩ := tn_pw p1
  obtain ⟨pt2, ct2, _⟩ := tn_pw p2
  obtain ⟨ptb, ctb, _⟩ := tn_pw M1.pw
  have u1 := turned_ok p1 (by decide)
  have u2 := turned_ok p2 (by decide)
  have ub := turned_ok M1.pw (by decide)
  obtain ⟨x10, rt⟩ := repr_ps pt1 (by decide) (by decide)
  obtain ⟨w4, _, m7, M6⟩ := mul_ok pt1 pt2 (by decide) (by decide)
  have q3 : tn bo2 = w4 := ptb.ok.eq M6.pw.ok fun q => by
    rw [ctb, M1.cf, M6.cf]
    have h1 : ∀ q, cf (tn one) q = cf (ng one) q := fun q => by rw [ct1, cf_ng]
    have h2 : ∀ q, cf (tn other) q = cf (ng other) q := fun q => by rw [ct2, cf_ng]
    rw [cv_cgL h1, cv_cgR h2, cv_ng]
  subst q3
  have to1 : compG (fun (y_2 : (Int × Int)) => (some true)) (fun (y_2 : (Int × Int)) => (some y_2.2)) one = some (one.map fun p => p.2) := compG_all (fun y : Int × Int => y.2) (by omega) fun _ _ => rfl
  have to2 := sum_tot one
  have z1 := sum_ok (l := one) (by omega)
  have z2 := sum_ok (l := other) (by omega)
  have z3 := sum_ok (l := bo2) (by have := M1.pw.len; omega)
  have tb : ∀ {A N : Nat} {l : PS}, Pw A N l → (tot l).natAbs ≤ N := fun {A N l} h => by
    refine Nat.le_trans ?_ h.nmb
    clear h
    induction l with
    | nil => exact Nat.le_refl _
    | cons p l ih => simp only [tot, nm]; omega
  have b1' := tb p1
  have zm : mulT (tot one) (tot other) = some (tot bo2) := by rw [mulT_l (by omega), M1.tot]
  have rtot : reprT (eI (tot one)) = some (PyData.int (tot one)).shown := (rp_i (i := tot one) (by omega)).shows
  obtain ⟨k0, s5, e2, k1, k2⟩ := pickT_ex s4 13 (by decide)
  obtain ⟨k, rfl⟩ : ∃ k : Nat, k0 = (k : Int) := ⟨k0.toNat, by omega⟩
  obtain ⟨lp, lo1, lo2, plp⟩ := loops_ok (k := k) (by omega)
  obtain ⟨x11, rlp⟩ := repr_ps plp (by decide) (by decide)
  have ca : catT one one = some (one ++ one) := catT_ok (by omega)
  have dd : ∀ x : Str, decide (x = x) = true := fun x => decide_eq_true rfl
  have dp : ∀ x : PS, decide (x = x) = true := fun x => decide_eq_true rfl
  have di : ∀ x : Int, decide (x = x) = true := fun x => decide_eq_true rfl
  have r6 : rng1T 6 = some ((List.range 6).map fun k : Nat => (k : Int)) := rng1_ok (n := 6) (by omega)
  have g1 : Gd 500000 4 ((eT eP) one) := ⟨⟨true, (rpL_ps p1 (by decide) (by decide) (by omega)).up⟩, fun xs e => by cases e; rw [List.length_map]; omega⟩
  have base : ∀ v ∈ [((eT (eTu (fC eI (f1 eI)))) one), ((eL (eTu (fC eI (f1 eI)))) one), ((eT (eTu (fC eI (f1 eI)))) (revT one none)), ((eT (eTu (fC eI (f1 eI)))) (one ++ one)), (eN ()), ((eT eI) ([] : (List Int))), ((eTu (f1 (eTu (fC eI (f1 eI))))) ((0, 0))), ((eTu (f1 (eTu (fC eI (f1 eB))))) ((0, true))), ((eTu (f1 (eTu (fC eS (f1 eI))))) ((("0" : Str), 1)))], Gd 500000 4 v := fun v hv => by
    have item : ∀ L, ∀ d ∈ one.map eP, RpM L 147 1 d := fun L d hd => by
      obtain ⟨p, hp, rfl⟩ := List.mem_map.mp hd
      have h1 := p1.pow p hp
      have h2 := p1.num hp
      exact rpM_tup (m := 2) (n := 70) (k := 0) (fun d hd => by
        simp only [List.mem_cons, List.not_mem_nil, or_false] at hd
        rcases hd with rfl | rfl
        · exact rpM_i (by omega)
        · exact rpM_i (by omega)) (by simp) (by decide)
    simp only [List.mem_cons, List.not_mem_nil, or_false] at hv
    rcases hv with rfl | rfl | rfl | rfl | rfl | rfl | rfl | rfl | rfl
    · exact g1
    · exact ⟨⟨true, (rpM_lst (m := 50) (N := 8000) (item true) (by rw [List.length_map]; omega) (by decide)).up⟩, fun xs e => nomatch e⟩
    · have e : revT one none = one.reverse := revT_all
      rw [e]
      refine ⟨⟨true, (rpM_tup (m := 50) (n := 147) (k := 1) (N := 8000) (fun d hd => ?_) (by rw [List.length_map, List.length_reverse]; omega) (by decide)).up⟩, fun xs e => by cases e; rw [List.length_map, List.length_reverse]; omega⟩
      obtain ⟨p, hp, rfl⟩ := List.mem_map.mp hd
      exact item true _ (List.mem_map.mpr ⟨p, List.mem_reverse.mp hp, rfl⟩)
    · refine ⟨⟨true, (rpM_tup (m := 50) (n := 147) (k := 1) (N := 8000) (fun d hd => ?_) (by rw [List.length_map, List.length_append]; omega) (by decide)).up⟩, fun xs e => by cases e; rw [List.length_map, List.length_append]; omega⟩
      obtain ⟨p, hp, rfl⟩ := List.mem_map.mp hd
      rcases List.mem_append.mp hp with hp | hp <;> exact item true _ (List.mem_map.mpr ⟨p, hp, rfl⟩)
    · exact ⟨⟨true, rpM_dec (by decide +kernel)⟩, fun xs e => nomatch e⟩
    · exact ⟨⟨true, rpM_dec (by decide +kernel)⟩, fun xs e => by cases e; simp⟩
    · exact ⟨⟨true, rpM_dec (by decide +kernel)⟩, fun xs e => by cases e; simp⟩
    · exact ⟨⟨true, rpM_dec (by decide +kernel)⟩, fun xs e => by cases e; simp⟩
    · exact ⟨⟨true, rpM_dec (by decide +kernel)⟩, fun xs e => by cases e; simp⟩
  obtain ⟨st, e3, hst, hln⟩ := forP_inv (f := l0_law oddL (one, other, third, ())) (fun j (w : Src × List PyData) => (∀ v ∈ w.2, Gd 500000 4 v) ∧ w.2.length ≤ 9 + j) (xs := (List.range 6).map fun k : Nat => (k : Int)) (s := (s5, [((eT (eTu (fC eI (f1 eI)))) one), ((eL (eTu (fC eI (f1 eI)))) one), ((eT (eTu (fC eI (f1 eI)))) (revT one none)), ((eT (eTu (fC eI (f1 eI)))) (one ++ one)), (eN ()), ((eT eI) ([] : (List Int))), ((eTu (f1 (eTu (fC eI (f1 eI))))) ((0, 0))), ((eTu (f1 (eTu (fC eI (f1 eB))))) ((0, true))), ((eTu (f1 (eTu (fC eS (f1 eI))))) ((("0" : Str), 1)))])) (k := 0) ⟨base, by simp⟩ fun j x w hj ⟨hw, hwl⟩ => by
    have hj6 : j < 6 := by
      have := (List.getElem?_eq_some_iff.mp hj).1
      simpa using this
    obtain ⟨v, t, f1, gv⟩ := near_ok p1 (by decide) (by decide) (by omega) w.1
    refine ⟨(t, w.2 ++ [v]), ?_, fun u hu => ?_, by rw [List.length_append]; simp; omega⟩
    · unfold l0_law
      simp -implicitDefEqProofs only [f1, drw_some]
      rw [appT_ok (by omega)]; rfl
    · rcases List.mem_append.mp hu with h | h
      · exact hw u h
      · rw [List.mem_singleton.mp h]; exact gv
  have e4 : forC l1_law st.2 () = some (.nx ()) := forC_unit fun v hv => .inl (value_ok (hst v hv))
  refine ⟨st.1, ?_⟩
  unfold l2_law
  simp -implicitDefEqProofs only [thn2_ap, lif_ap, a1, a2, a3, r0, e1, b1, b2, rad, m1, m2, m3, m4, m5, m6, m7, rb, tu, u1, ub, u2, rt, to1, to2, z1, z2, z3, zm, rtot, e2, lo1, lo2, rlp, ca, r6, e3, e4, dd, dp, di, drw_some, Option.bind_some, Option.map_some, decide_true, Bool.not_true, Bool.false_eq_true, if_false, ctlK_nx]
end K16

namespace K16
open PySem PySem.Spec PyProof.Rows L2 DL
theorem loops2 : t_loops_taken 2 = some [(-4, 1), (0, 2), (4, 1)] := by
  obtain ⟨l, e1, _, M1⟩ := mul_ok pw_one pw_loop (by decide) (by decide)
  have q1 : l = LOOPS := M1.pw.ok.eq pw_loop.ok fun q => by
    rw [M1.cf]
    have : cv [(0, 1)] LOOPS = LOOPS := by decide
    rw [this]
  subst q1
  obtain ⟨l2, e2, _, M2⟩ := mul_ok pw_loop pw_loop (by decide) (by decide)
  have ok2 : Okp [(-4, 1), (0, 2), (4, 1)] := ⟨by decide, by decide⟩
  have q2 : l2 = [(-4, 1), (0, 2), (4, 1)] := M2.pw.ok.eq ok2 fun q => by
    rw [M2.cf]
    have : cv LOOPS LOOPS = [(-4, 1), (0, 1), (0, 1), (4, 1)] := by decide
    rw [this]
    simp only [cf]
    split <;> split <;> split <;> omega
  subst q2
  have r2 : rng1T 2 = some [0, 1] := by
    have := rng1_ok (n := 2) (by omega)
    exact this
  have e1 : t_multiplied_powers [(0, 1)] [((-2), (-1)), ((2), (-1))] = some LOOPS := e1
  have e2 : t_multiplied_powers LOOPS [((-2), (-1)), ((2), (-1))] = some [(-4, 1), (0, 2), (4, 1)] := e2
  have s1 : l0_loops_taken [(0, 1)] 0 = some LOOPS := by unfold l0_loops_taken; rw [e1]; rfl
  have s2 : l0_loops_taken LOOPS 1 = some [(-4, 1), (0, 2), (4, 1)] := by unfold l0_loops_taken; rw [e2]; rfl
  unfold t_loops_taken
  rw [Option.bind_some, r2, Option.bind_some, forP_cons, s1, Option.bind_some, forP_cons, s2]; rfl
theorem yes : DL.Yes 63 m_law := by
  intro ns hn
  obtain ⟨s', h1, _⟩ := forC_keep (f := fun st (k : Nat) => l2_law oddL st (k : Int)) (fun _ => True) (xs := List.range 5) (s := srcS ns) trivial fun x hx s _ => by
    obtain ⟨s', h⟩ := lap_ok s (x : Int)
    exact ⟨s', .inl h, trivial⟩
  have e : t_law ns = some true := by
    have r5 : rng1T 5 = some ((List.range 5).map fun k : Nat => (k : Int)) := rng1_ok (n := 5) (by omega)
    have s1 : sourceT ns = some (srcS ns) := if_pos hn
    have hp : powT 10 20 = some 100000000000000000000 := by decide +kernel
    have ho : [(eN ()), (eB true), (eI 0), (eI 1), (eI (-1)), (eS ("0" : Str)), ((eT eI) ([] : (List Int))), ((eTu (f1 eI)) (0)), ((eTu (fC eI (f1 eI))) (0, 0)), ((eTu (fC eI (f1 eI))) (3, 1)), ((eL eI) ([0])), (PyData.dict []), eI 100000000000000000000] = oddL := rfl
    have hl : decide (([((-2), (-1)), ((2), (-1))] : List (Int × Int)) = ([((-2), (-1)), (2, (-1))])) = true := by decide
    have d1 : decide (([(-4, 1), (0, 2), (4, 1)] : List (Int × Int)) = [((-4), 1), (0, 2), (4, 1)]) = true := by decide
    unfold t_law
    simp -implicitDefEqProofs only [s1, hp, ho, r5, Option.map_some, Option.bind_some, forC_mapL, h1, ctlK_nx, loops2, hl, d1, if_true, decide_true]
  obtain ⟨_, outs, h⟩ := k_law (ns, ()) true e
  have h : m_law [.list (ns.map PyData.int)] = some (.bool true, outs) := h
  rw [h]; rfl
end K16

open PySem PySem.W PyProof.Rows
set_option maxHeartbeats 0 in
theorem PySem.Challenge.cw_lacednets_k16_power_sums_holds : PySem.Challenge.rw_lacednets_k16_power_sums.Holds := by
  w_on; o_law; k_head; (case hw => w_witness2)
  k_fill
  refine DL.walkG (l := PySem.Challenge.rw_lacednets_k16_power_sums) (n := 63) (k := 12) (mf := K16.m_law) rfl (by decide) rfl ⟨rfl, by decide, by decide⟩ (fun w h Y => PySem.W.kIn_of Y) ?F K16.yes
  case F =>
    intro w mg h KX G base _ _
    refine' K16.all_mk KX G ?a0 ?l0 ?c0 ?k0 ?a1 ?l1 ?c1 ?k1 ?a2 ?l2 ?c2 ?k2 ?a3 ?l3 ?c3 ?k3 ?a4 ?l4 ?c4 ?k4 ?a5 ?l5 ?c5 ?k5 ?a6 ?l6 ?c6 ?k6 ?a7 ?l7 ?c7 ?k7 ?a8 ?l8 ?c8 ?k8 ?a9 ?l9 ?c9 ?k9 ?a10 ?l10 ?c10 ?k10 ?a11 ?l11 ?c11 ?k11 ?a12 ?l12 ?c12 ?k12 ?a13 ?l13 ?c13 ?k13 ?a14 ?l14 ?c14 ?k14 ?a15 ?l15 ?c15 ?k15 ?a16 ?l16 ?c16 ?k16 ?a17 ?l17 ?c17 ?k17 ?a18 ?l18 ?c18 ?k18 ?w_abs ?w_all ?w_bool ?w_dict ?w_int ?w_isinstance ?w_len ?w_list ?w_max ?w_range ?w_repr ?w_sorted ?w_sum ?w_tuple ?g0_LOOP ?g1_LOOP ?g2_LOOP ?g3_LOOP
    (case a0 => k_is); (case l0 => k_is); (case c0 => k_is); (case k0 => k_is); (case a1 => k_is); (case l1 => k_is); (case c1 => k_is); (case k1 => k_is)
    (case a2 => k_is); (case l2 => k_is); (case c2 => k_is); (case k2 => k_is); (case a3 => k_is); (case l3 => k_is); (case c3 => k_is); (case k3 => k_is)
    (case a4 => k_is); (case l4 => k_is); (case c4 => k_is); (case k4 => k_is); (case a5 => k_is); (case l5 => k_is); (case c5 => k_is); (case k5 => k_is)
    (case a6 => k_is); (case l6 => k_is); (case c6 => k_is); (case k6 => k_is); (case a7 => k_is); (case l7 => k_is); (case c7 => k_is); (case k7 => k_is)
    (case a8 => k_is); (case l8 => k_is); (case c8 => k_is); (case k8 => k_is); (case a9 => k_is); (case l9 => k_is); (case c9 => k_is); (case k9 => k_is)
    (case a10 => k_is); (case l10 => k_is); (case c10 => k_is); (case k10 => k_is); (case a11 => k_is); (case l11 => k_is); (case c11 => k_is); (case k11 => k_is)
    (case a12 => k_is); (case l12 => k_is); (case c12 => k_is); (case k12 => k_is); (case a13 => k_is); (case l13 => k_is); (case c13 => k_is); (case k13 => k_is)
    (case a14 => k_is); (case l14 => k_is); (case c14 => k_is); (case k14 => k_is); (case a15 => k_is); (case l15 => k_is); (case c15 => k_is); (case k15 => k_is)
    (case a16 => k_is); (case l16 => k_is); (case c16 => k_is); (case k16 => k_is); (case a17 => k_is); (case l17 => k_is); (case c17 => k_is); (case k17 => k_is)
    (case a18 => k_is); (case l18 => k_is); (case c18 => k_is); (case k18 => k_is); (case w_abs => k_is); (case w_all => k_is); (case w_bool => k_is); (case w_dict => k_is)
    (case w_int => k_is); (case w_isinstance => k_is); (case w_len => k_is); (case w_list => k_is); (case w_max => k_is); (case w_range => k_is); (case w_repr => k_is); (case w_sorted => k_is)
    (case w_sum => k_is); (case w_tuple => k_is); (case g0_LOOP => k_is); (case g1_LOOP => k_is); (case g2_LOOP => k_is); (case g3_LOOP => k_is)
