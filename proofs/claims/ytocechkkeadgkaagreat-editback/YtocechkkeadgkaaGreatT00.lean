/- EditBack: for every scene and node, the law EditBack returns true, and what it was given reads as before. Part 1 of 6. -/
import Derived.WalkKit
import Derived.ChangeKeysEq
set_option linter.unusedVariables false
namespace Go.Pv
open Go

/-- A value with immutable memory written out, mutable memory by key. -/
inductive PV where
  | any
  | bool (b : Bool)
  | int (k : IntKind) (n : Int)
  | str (s : ByteArray)
  | nilPtr
  | ptr (k : List Nat) (n i off : Nat)
  | iptr (elems : List PV) (i off : Nat)
  | islice (cap : Option Nat) (elems : List PV)
  | slice (k : List Nat) (len : Nat)
  | nilMap
  | map (k : List Nat)
  | nilFunc
  | func (fn : Fn) (first captured : List PV)
  | agg (cells : List PV)
  | tup (vs : List PV)
  | val (v : Value)
  | part (k : List Nat) (esz n lo hi : Nat)
  deriving Inhabited

abbrev PV.undef : PV := .tup []

def PV.cells : PV → List PV
  | .agg cs => cs
  | v => [v]

/-- What a key names: a row of elements of so many cells each, or a map. -/
inductive Ob where
  | row (sz : Nat) (elems : List PV)
  | mp (es : List (PV × PV))
  deriving Inhabited

abbrev Key := List Nat
abbrev St := List (Key × Ob)
abbrev Env := List PV

def St.find : St → Key → Option Ob
  | [], _ => none
  | (k', o) :: r, k => if k' = k then some o else St.find r k

/-- Which real block a key has now (none: a row that has none yet), and what it holds. -/
abbrev KMap := Key → Option (Option Nat × Ob)

def own (K : KMap) (r : Nat) : Prop := ∃ k ob, K k = some (some r, ob)

/-- v is p in the world w; U: the keys that have been given; F: blocks that belong to somebody else; K: keys that live: their block, what it holds. -/
inductive Rel (w : World) (K : KMap) (U : Key → Prop) (F : Nat → Prop) : PV → Value → Prop
  | any (v : Value) : Rel w K U F .any v
  | bool (b : Bool) : Rel w K U F (.bool b) (.bool b)
  | int (k : IntKind) (n : Int) : Rel w K U F (.int k n) (.int k n)
  | str (s : ByteArray) : Rel w K U F (.str s) (.string s)
  | nilPtr : Rel w K U F .nilPtr (.pointer none)
  | ptr (k : Key) (n i off : Nat) (a : Addr) (hu : U k) (hs : a.spot = none) (h0 : ∀ sz es, K k ≠ some (none, .row sz es))
      (h : ∀ r sz es, K k = some (some r, .row sz es) → n ≤ es.length ∧ (es.length = n → a = ⟨r, i * sz + off, none⟩)) : Rel w K U F (.ptr k n i off) (.pointer (some a))
  | iptr (elems : List PV) (i off r o sz : Nat) (c : Array Value) (e : TypeId) (fr : Nat × Nat)
      (hF : ¬ F r) (hK : ¬ own K r) (hb : w.heap[r]? = some (.cells c e fr))
      (hsz : ∀ x ∈ elems, x.cells.length = sz) (hin : o + elems.length * sz ≤ c.size)
      (hc : ∀ j m, (hj : j < elems.length) → (hm : m < elems[j].cells.length) → Rel w K U F (elems[j].cells[m]) (c.getD (o + j * sz + m) undef)) :
      Rel w K U F (.iptr elems i off) (.pointer (some ⟨r, o + i * sz + off, none⟩))
  | inil (cap : Option Nat) (a : Option Addr) (c : Nat) (hc : ∀ c', cap = some c' → c = c') (ha : a = none → c = 0) : Rel w K U F (.islice cap []) (.slice a 0 c)
  | islice (cap : Option Nat) (elems : List PV) (r o sz cp : Nat) (c : Array Value) (e : TypeId) (fr : Nat × Nat) (hne : elems ≠ []) (hcap : ∀ c', cap = some c' → cp = c') (hle : elems.length ≤ cp)
      (hF : ¬ F r) (hK : ¬ own K r) (hb : w.heap[r]? = some (.cells c e fr))
      (hsz : ∀ x ∈ elems, x.cells.length = sz) (hin : o + elems.length * sz ≤ c.size)
      (hc : ∀ j m, (hj : j < elems.length) → (hm : m < elems[j].cells.length) → Rel w K U F (elems[j].cells[m]) (c.getD (o + j * sz + m) undef)) :
      Rel w K U F (.islice cap elems) (.slice (some ⟨r, o, none⟩) elems.length cp)
  | slice (k : Key) (len : Nat) (a : Option Addr) (l cp : Nat) (hu : U k)
      (h0 : ∀ sz es, K k = some (none, .row sz es) → len ≤ es.length ∧ (es.length = len → l = 0 ∧ cp = 0))
      (h : ∀ r sz es, K k = some (some r, .row sz es) → len ≤ es.length ∧ (es.length = len → a = some ⟨r, 0, none⟩ ∧ l = len ∧ len ≤ cp ∧ ∀ c e fr, w.heap[r]? = some (.cells c e fr) → cp * sz ≤ c.size)) : Rel w K U F (.slice k len) (.slice a l cp)
  | nilMap : Rel w K U F .nilMap (.map none)
  | map (k : Key) (m : Option Nat) (hu : U k) (h : ∀ r es, K k = some (some r, .mp es) → m = some r) : Rel w K U F (.map k) (.map m)
  | nilFunc : Rel w K U F .nilFunc .nilFunc
  | func (fn : Fn) (first captured : List PV) (a b : Array Value) (ha : first.length = a.size) (hb : captured.length = b.size)
      (h1 : ∀ i, (hi : i < first.length) → Rel w K U F first[i] (a.getD i undef))
      (h2 : ∀ i, (hi : i < captured.length) → Rel w K U F captured[i] (b.getD i undef)) : Rel w K U F (.func fn first captured) (.func fn a b)
  | agg (cells : List PV) (a : Array Value) (ha : cells.length = a.size) (h : ∀ i, (hi : i < cells.length) → Rel w K U F cells[i] (a.getD i undef)) : Rel w K U F (.agg cells) (.agg a)
  | tup (vs : List PV) (a : Array Value) (ha : vs.length = a.size) (h : ∀ i, (hi : i < vs.length) → Rel w K U F vs[i] (a.getD i undef)) : Rel w K U F (.tup vs) (.tuple a)
  | val (v : Value) : Rel w K U F (.val v) v
  | part (k : Key) (esz n lo hi : Nat) (a : Option Addr) (l cp : Nat) (hu : U k) (hlh : lo ≤ hi) (hhn : hi ≤ n)
      (h0 : ∀ sz es, K k = some (none, .row sz es) → n ≤ es.length ∧ (es.length = n → l = 0 ∧ cp = 0))
      (h : ∀ r sz es, K k = some (some r, .row sz es) → n ≤ es.length ∧ (es.length = n → l = hi - lo ∧ n - lo ≤ cp ∧ (0 < cp → a = some ⟨r, lo * esz, none⟩) ∧ ∀ c e fr, w.heap[r]? = some (.cells c e fr) → (lo + cp) * sz ≤ c.size)) : Rel w K U F (.part k esz n lo hi) (.slice a l cp)

/-- From (w, K, U, F) to (w', K', U', F') what held of values goes on to hold. -/
structure Step (w : World) (K : KMap) (U : Key → Prop) (F : Nat → Prop) (w' : World) (K' : KMap) (U' : Key → Prop) (F' : Nat → Prop) : Prop where
  used : ∀ k, U k → U' k
  imm : ∀ r c e fr, w.heap[r]? = some (.cells c e fr) → ¬ F r → ¬ own K r → w'.heap[r]? = some (.cells c e fr) ∧ ¬ F' r ∧ ¬ own K' r
  row0 : ∀ k sz es', U k → K' k = some (none, .row sz es') → ∃ es, K k = some (none, .row sz es) ∧ es.length = es'.length
  row : ∀ k r sz es', U k → K' k = some (some r, .row sz es') → ∃ ro es, K k = some (ro, .row sz es) ∧ es.length ≤ es'.length ∧
    (es.length = es'.length → ro = some r ∧ ∀ c' e fr, w'.heap[r]? = some (.cells c' e fr) → ∃ c e' fr', w.heap[r]? = some (.cells c e' fr') ∧ c.size ≤ c'.size)
  mp : ∀ k r es', U k → K' k = some (some r, .mp es') → ∃ es, K k = some (some r, .mp es)

theorem Rel.mono {w w' : World} {K K' : KMap} {U U' : Key → Prop} {F F' : Nat → Prop} (s : Step w K U F w' K' U' F') {p : PV} {v : Value} (h : Rel w K U F p v) : Rel w' K' U' F' p v := by
  induction h with
  | any v => exact .any v
  | bool b => exact .bool b
  | int k n => exact .int k n
  | str b => exact .str b
  | nilPtr => exact .nilPtr
  | ptr k n i off a hu hs h0 h =>
    refine .ptr k n i off a (s.used _ hu) hs (fun sz es' hk => ?_) fun r sz es' hk => ?_
    · obtain ⟨es, h1, _⟩ := s.row0 k sz es' hu hk
      exact h0 _ _ h1
    obtain ⟨ro, es, h1, h2, h3⟩ := s.row k r sz es' hu hk
    by_cases he : es.length = es'.length
    · obtain ⟨rfl, _⟩ := h3 he
      obtain ⟨h4, h5⟩ := h r sz es h1
      exact ⟨by omega, fun e => h5 (by omega)⟩
    · cases ro with
      | none => exact absurd h1 (h0 _ _)
      | some r0 =>
        obtain ⟨h4, h5⟩ := h r0 sz es h1
        exact ⟨by omega, fun e => by omega⟩
  | iptr elems i off r o sz c e fr hF hK hb hsz hin hc ih =>
    obtain ⟨h1, h2, h3⟩ := s.imm r c e fr hb hF hK
    exact .iptr elems i off r o sz c e fr h2 h3 h1 hsz hin ih
  | inil cap a c hc ha => exact .inil cap a c hc ha
  | islice cap elems r o sz cp c e fr hne hcap hle hF hK hb hsz hin hc ih =>
    obtain ⟨h1, h2, h3⟩ := s.imm r c e fr hb hF hK
    exact .islice cap elems r o sz cp c e fr hne hcap hle h2 h3 h1 hsz hin ih
  | slice k len a l cp hu h0 h =>
    refine .slice k len a l cp (s.used _ hu) (fun sz es' hk => ?_) (fun r sz es' hk => ?_)
    · obtain ⟨es, h1, h2⟩ := s.row0 k sz es' hu hk
      obtain ⟨h3, h4⟩ := h0 sz es h1
      exact ⟨by omega, fun e => h4 (by omega)⟩
    · obtain ⟨ro, es, h1, h2, h3⟩ := s.row k r sz es' hu hk
      cases ro with
      | none =>
        obtain ⟨h4, _⟩ := h0 sz es h1
        refine ⟨by omega, fun e => ?_⟩
        have := h3 (by omega)
        simp at this
      | some r0 =>
        obtain ⟨h4, h5⟩ := h r0 sz es h1
        refine ⟨by omega, fun e => ?_⟩
        obtain ⟨h6, h7⟩ := h3 (by omega)
        simp only [Option.some.injEq] at h6
        subst h6
        obtain ⟨h8, h9, h10, h11⟩ := h5 (by omega)
        refine ⟨h8, h9, h10, fun c' e fr hc' => ?_⟩
        obtain ⟨c, e', fr', hc, hle⟩ := h7 c' e fr hc'
        exact Nat.le_trans (h11 _ _ _ hc) hle
  | nilMap => exact .nilMap
  | map k m hu h =>
    refine .map k m (s.used _ hu) fun r es' hk => ?_
    obtain ⟨es, h1⟩ := s.mp k r es' hu hk
    exact h r es h1
  | nilFunc => exact .nilFunc
  | func fn first captured a b ha hb h1 h2 ih1 ih2 => exact .func fn first captured a b ha hb ih1 ih2
  | agg cells a ha h ih => exact .agg cells a ha ih
  | tup vs a ha h ih => exact .tup vs a ha ih
  | val v => exact .val v
  | part k esz n lo hi a l cp hu hlh hhn h0 h =>
    refine .part k esz n lo hi a l cp (s.used _ hu) hlh hhn (fun sz es' hk => ?_) (fun r sz es' hk => ?_)
    · obtain ⟨es, h1, h2⟩ := s.row0 k sz es' hu hk
      obtain ⟨h3, h4⟩ := h0 sz es h1
      exact ⟨by omega, fun e => h4 (by omega)⟩
    · obtain ⟨ro, es, h1, h2, h3⟩ := s.row k r sz es' hu hk
      cases ro with
      | none =>
        obtain ⟨h4, _⟩ := h0 sz es h1
        refine ⟨by omega, fun e => ?_⟩
        have := h3 (by omega)
        simp at this
      | some r0 =>
        obtain ⟨h4, h5⟩ := h r0 sz es h1
        refine ⟨by omega, fun e => ?_⟩
        obtain ⟨h6, h7⟩ := h3 (by omega)
        simp only [Option.some.injEq] at h6
        subst h6
        obtain ⟨h8, h9, h10, h11⟩ := h5 (by omega)
        refine ⟨h8, h9, h10, fun c' e fr hc' => ?_⟩
        obtain ⟨c, e', fr', hc, hle⟩ := h7 c' e fr hc'
        exact Nat.le_trans (h11 _ _ _ hc) hle

/-- The machine's memory as the abstract one says. -/
structure Sim (w : World) (K : KMap) (U : Key → Prop) (F : Nat → Prop) (S : St) : Prop where
  key : ∀ k, (K k).map (·.2) = S.find k
  used : ∀ k x, K k = some x → U k
  inj : ∀ k k' r ob ob', K k = some (some r, ob) → K k' = some (some r, ob') → k = k'
  foreign : ∀ r, own K r → ¬ F r
  fdom : ∀ r, F r → r < w.heap.size
  row0 : ∀ k sz es, K k = some (none, .row sz es) → es = []
  row : ∀ k r sz es, K k = some (some r, .row sz es) → (∀ x ∈ es, x.cells.length = sz) ∧ ∃ c e, w.heap[r]? = some (.cells c e (0, 0)) ∧ es.length * sz ≤ c.size ∧
    ∀ j m, (hj : j < es.length) → (hm : m < es[j].cells.length) → Rel w K U F (es[j].cells[m]) (c.getD (j * sz + m) undef)
  mp0 : ∀ k es, K k ≠ some (none, .mp es)
  mp : ∀ k r es, K k = some (some r, .mp es) → ∃ ms clock, w.heap[r]? = some (.map ms clock) ∧ es.length = ms.size ∧
    ∀ i, (hi : i < es.length) → Rel w K U F es[i].1 (ms.getD i default).key ∧ Rel w K U F es[i].2 (ms.getD i default).val

/-- From w to w' nothing has turned but what is owned. -/
structure Fr (w : World) (K : KMap) (w' : World) (K' : KMap) : Prop where
  os : w'.os = w.os
  tape : w'.tape = w.tape
  output : w'.output = w.output
  size : w.heap.size ≤ w'.heap.size
  block : ∀ r, r < w.heap.size → ¬ own K r → w'.heap[r]? = w.heap[r]?
  own : ∀ r, own K' r → own K r ∨ w.heap.size ≤ r

theorem Fr.refl (w : World) (K : KMap) : Fr w K w K := ⟨rfl, rfl, rfl, Nat.le_refl _, fun _ _ _ => rfl, fun _ h => .inl h⟩

theorem Fr.trans {a b c : World} {K K' K'' : KMap} (h : Fr a K b K') (k : Fr b K' c K'') : Fr a K c K'' where
  os := k.os.trans h.os
  tape := k.tape.trans h.tape
  output := k.output.trans h.output
  size := Nat.le_trans h.size k.size
  block := fun r hr hn => (k.block r (Nat.lt_of_lt_of_le hr h.size) (fun ho => (h.own r ho).elim hn (by omega))).trans (h.block r hr hn)
  own := fun r ho => (k.own r ho).elim (fun h' => h.own r h') (fun h' => .inr (Nat.le_trans h.size h'))

theorem Step.trans {w w' w'' : World} {K K' K'' : KMap} {U U' U'' : Key → Prop} {F F' F'' : Nat → Prop} (h : Step w K U F w' K' U' F') (k : Step w' K' U' F' w'' K'' U'' F'') : Step w K U F w'' K'' U'' F'' where
  used := fun x hx => k.used x (h.used x hx)
  imm := fun r c e fr hb hf hk => by
    obtain ⟨h1, h2, h3⟩ := h.imm r c e fr hb hf hk
    exact k.imm r c e fr h1 h2 h3
  row0 := fun x sz es'' hu hk => by
    obtain ⟨es', h1, h2⟩ := k.row0 x sz es'' (h.used x hu) hk
    obtain ⟨es, h3, h4⟩ := h.row0 x sz es' hu h1
    exact ⟨es, h3, h4.trans h2⟩
  row := fun x r sz es'' hu hk => by
    obtain ⟨ro, es', h1, h2, h3⟩ := k.row x r sz es'' (h.used x hu) hk
    cases ro with
    | none =>
      obtain ⟨es, h4, h5⟩ := h.row0 x sz es' hu h1
      refine ⟨none, es, h4, by omega, fun e => ?_⟩
      have := (h3 (by omega)).1
      cases this
    | some r' =>
      obtain ⟨ro2, es, h4, h5, h6⟩ := h.row x r' sz es' hu h1
      refine ⟨ro2, es, h4, by omega, fun e => ?_⟩
      obtain ⟨e1, h7⟩ := h3 (by omega)
      obtain ⟨e2, h8⟩ := h6 (by omega)
      cases e1
      refine ⟨e2, fun c'' e fr hc => ?_⟩
      obtain ⟨c', e', fr', h9, h10⟩ := h7 c'' e fr hc
      obtain ⟨c, e3, fr3, h11, h12⟩ := h8 c' e' fr' h9
      exact ⟨c, e3, fr3, h11, by omega⟩
  mp := fun x r es'' hu hk => by
    obtain ⟨es', h1⟩ := k.mp x r es'' (h.used x hu) hk
    exact h.mp x r es' hu h1

/-- A drop of keys: what lives goes on to live as it is. -/
theorem Step.drop {w : World} {K K' : KMap} {U U' : Key → Prop} {F : Nat → Prop} (hU : ∀ k, U k → U' k) (h : ∀ k x, U k → K' k = some x → K k = some x) (hF : ∀ r, Go.Pv.own K' r → Go.Pv.own K r) : Step w K U F w K' U' F where
  used := hU
  imm := fun r c e fr hb hf hk => ⟨hb, hf, fun ho => hk (hF r ho)⟩
  row0 := fun k sz es' hu hk => ⟨es', h k _ hu hk, rfl⟩
  row := fun k r sz es' hu hk => ⟨some r, es', h k _ hu hk, Nat.le_refl _, fun _ => ⟨rfl, fun c' e fr hc => ⟨c', e, fr, hc, Nat.le_refl _⟩⟩⟩
  mp := fun k r es' hu hk => ⟨es', h k _ hu hk⟩

def St.set : St → Key → Ob → St
  | [], k, o => [(k, o)]
  | (k', o') :: r, k, o => if k' = k then (k, o) :: r else (k', o') :: St.set r k o

def St.del : St → Key → St
  | [], _ => []
  | (k', o') :: r, k => if k' = k then St.del r k else (k', o') :: St.del r k

theorem St.find_set (S : St) (k k' : Key) (o : Ob) : St.find (St.set S k o) k' = if k' = k then some o else St.find S k' := by
  induction S with
  | nil =>
    simp only [St.set, St.find]
    by_cases h : k' = k
    · rw [if_pos h, if_pos h.symm]
    · rw [if_neg h, if_neg fun e => h e.symm]
  | cons x S ih =>
    obtain ⟨a, b⟩ := x
    simp only [St.set]
    by_cases h1 : a = k
    · rw [if_pos h1]
      simp only [St.find]
      by_cases h : k' = k
      · rw [if_pos h, if_pos h.symm]
      · rw [if_neg h, if_neg fun e => h e.symm, if_neg fun e => h (e.symm.trans h1)]
    · rw [if_neg h1]
      simp only [St.find, ih]
      by_cases h : k' = k
      · rw [if_pos h, if_neg fun e => h1 (e.trans h), if_pos h]
      · rw [if_neg h, if_neg h]

theorem St.find_del (S : St) (k k' : Key) : St.find (St.del S k) k' = if k' = k then none else St.find S k' := by
  induction S with
  | nil => simp [St.del, St.find]
  | cons x S ih =>
    obtain ⟨a, b⟩ := x
    simp only [St.del]
    by_cases h1 : a = k
    · rw [if_pos h1, ih]
      simp only [St.find]
      by_cases h : k' = k
      · rw [if_pos h, if_pos h]
      · rw [if_neg h, if_neg h, if_neg fun e => h (e.symm.trans h1)]
    · rw [if_neg h1]
      simp only [St.find, ih]
      by_cases h : k' = k
      · rw [if_pos h, if_neg fun e => h1 (e.trans h), if_pos h]
      · rw [if_neg h, if_neg h]

/-- What the world w holds at block ro is ob. -/
def Holds (w : World) (K : KMap) (U : Key → Prop) (F : Nat → Prop) (ro : Option Nat) : Ob → Prop
  | .row sz es => (ro = none → es = []) ∧ ∀ r, ro = some r → (∀ x ∈ es, x.cells.length = sz) ∧ ∃ c e, w.heap[r]? = some (.cells c e (0, 0)) ∧ es.length * sz ≤ c.size ∧
    ∀ j m, (hj : j < es.length) → (hm : m < es[j].cells.length) → Rel w K U F (es[j].cells[m]) (c.getD (j * sz + m) undef)
  | .mp es => ∃ r ms clock, ro = some r ∧ w.heap[r]? = some (.map ms clock) ∧ es.length = ms.size ∧
    ∀ i, (hi : i < es.length) → Rel w K U F es[i].1 (ms.getD i default).key ∧ Rel w K U F es[i].2 (ms.getD i default).val

theorem Holds.mono {w w' : World} {K K' : KMap} {U U' : Key → Prop} {F F' : Nat → Prop} (s : Step w K U F w' K' U' F') {ro : Option Nat} {ob : Ob} (hw : ∀ r, ro = some r → w'.heap[r]? = w.heap[r]?) (h : Holds w K U F ro ob) : Holds w' K' U' F' ro ob := by
  cases ob with
  | row sz es =>
    refine ⟨h.1, fun r hr => ?_⟩
    obtain ⟨h1, c, e, h2, h3, h4⟩ := h.2 r hr
    exact ⟨h1, c, e, (hw r hr).trans h2, h3, fun j m hj hm => (h4 j m hj hm).mono s⟩
  | mp es =>
    obtain ⟨r, ms, clock, h1, h2, h3, h4⟩ := h
    exact ⟨r, ms, clock, h1, (hw r h1).trans h2, h3, fun i hi => ⟨(h4 i hi).1.mono s, (h4 i hi).2.mono s⟩⟩

theorem Sim.holds {w : World} {K : KMap} {U : Key → Prop} {F : Nat → Prop} {S : St} (h : Sim w K U F S) {k : Key} {ro : Option Nat} {ob : Ob} (hk : K k = some (ro, ob)) : Holds w K U F ro ob := by
  cases ob with
  | row sz es =>
    refine ⟨fun e => ?_, fun r hr => ?_⟩
    · subst e; exact h.row0 k sz es hk
    · subst hr; exact h.row k r sz es hk
  | mp es =>
    cases ro with
    | none => exact absurd hk (h.mp0 k es)
    | some r =>
      obtain ⟨ms, clock, h1⟩ := h.mp k r es hk
      exact ⟨r, ms, clock, rfl, h1⟩

theorem Sim.lt {w : World} {K : KMap} {U : Key → Prop} {F : Nat → Prop} {S : St} (h : Sim w K U F S) {k : Key} {r : Nat} {ob : Ob} (hk : K k = some (some r, ob)) : r < w.heap.size := by
  have := h.holds hk
  cases ob with
  | row sz es =>
    obtain ⟨_, c, e, h2, _⟩ := this.2 r rfl
    exact (Array.getElem?_eq_some_iff.1 h2).1
  | mp es =>
    obtain ⟨r', ms, clock, h1, h2, _⟩ := this
    cases h1
    exact (Array.getElem?_eq_some_iff.1 h2).1

theorem Sim.of_holds {w : World} {K : KMap} {U : Key → Prop} {F : Nat → Prop} {S : St} (key : ∀ k, (K k).map (·.2) = S.find k) (used : ∀ k x, K k = some x → U k)
    (inj : ∀ k k' r ob ob', K k = some (some r, ob) → K k' = some (some r, ob') → k = k') (foreign : ∀ r, own K r → ¬ F r) (fdom : ∀ r, F r → r < w.heap.size)
    (hh : ∀ k ro ob, K k = some (ro, ob) → Holds w K U F ro ob) : Sim w K U F S where
  key := key
  used := used
  inj := inj
  foreign := foreign
  fdom := fdom
  row0 := fun k sz es hk => (hh k none _ hk).1 rfl
  row := fun k r sz es hk => (hh k _ _ hk).2 r rfl
  mp0 := fun k es hk => by obtain ⟨r, ms, clock, h1, _⟩ := hh k _ _ hk; cases h1
  mp := fun k r es hk => by
    obtain ⟨r', ms, clock, h1, h2⟩ := hh k _ _ hk
    cases h1
    exact ⟨ms, clock, h2⟩

/-- The object at key k0 turns from what it was (or was not) to ob0. -/
def Compat (w w' : World) (K : KMap) (k0 : Key) (r0 : Option Nat) : Ob → Prop
  | .row sz es' => (r0 = none → ∃ es, K k0 = some (none, .row sz es) ∧ es.length = es'.length) ∧
    ∀ r, r0 = some r → ∃ ro es, K k0 = some (ro, .row sz es) ∧ es.length ≤ es'.length ∧ (es.length = es'.length → ro = some r ∧ ∀ c' e fr, w'.heap[r]? = some (.cells c' e fr) → ∃ c e' fr', w.heap[r]? = some (.cells c e' fr') ∧ c.size ≤ c'.size)
  | .mp _ => ∀ r, r0 = some r → ∃ es, K k0 = some (some r, .mp es)

def KMap.put (K : KMap) (k0 : Key) (x : Option Nat × Ob) : KMap := fun k => if k = k0 then some x else K k

theorem KMap.put_same (K : KMap) (k0 : Key) (x : Option Nat × Ob) : K.put k0 x k0 = some x := by simp [KMap.put]
theorem KMap.put_ne (K : KMap) {k0 k : Key} (x : Option Nat × Ob) (h : k ≠ k0) : K.put k0 x k = K k := by simp [KMap.put, h]

theorem Sim.change {w w' : World} {K : KMap} {U : Key → Prop} {F : Nat → Prop} {S : St} (hs : Sim w K U F S) (k0 : Key) (r0 : Option Nat) (ob0 : Ob)
    (hos : w'.os = w.os) (htape : w'.tape = w.tape) (hout : w'.output = w.output) (hsize : w.heap.size ≤ w'.heap.size)
    (hblk : ∀ r, r < w.heap.size → (∀ ob, K k0 ≠ some (some r, ob)) → w'.heap[r]? = w.heap[r]?)
    (hnew : ∀ r, r0 = some r → w.heap.size ≤ r ∨ ∃ ob, K k0 = some (some r, ob))
    (hold : U k0 → Compat w w' K k0 r0 ob0)
    (hcont : Step w K U F w' (K.put k0 (r0, ob0)) (fun k => U k ∨ k = k0) F → Holds w' (K.put k0 (r0, ob0)) (fun k => U k ∨ k = k0) F r0 ob0) :
    Step w K U F w' (K.put k0 (r0, ob0)) (fun k => U k ∨ k = k0) F ∧ Sim w' (K.put k0 (r0, ob0)) (fun k => U k ∨ k = k0) F (S.set k0 ob0) ∧ Fr w K w' (K.put k0 (r0, ob0)) := by
  have hown : ∀ r, own (K.put k0 (r0, ob0)) r → own K r ∨ w.heap.size ≤ r := by
    rintro r ⟨k, ob, hk⟩
    by_cases e : k = k0
    · subst e
      rw [KMap.put_same] at hk
      simp only [Option.some.injEq, Prod.mk.injEq] at hk
      rcases hnew r hk.1 with h | ⟨ob', h⟩
      · exact .inr h
      · exact .inl ⟨k, ob', h⟩
    · rw [KMap.put_ne _ _ e] at hk
      exact .inl ⟨k, ob, hk⟩
  have hstep : Step w K U F w' (K.put k0 (r0, ob0)) (fun k => U k ∨ k = k0) F := by
    refine ⟨fun k h => .inl h, fun r c e fr hb hf hk => ?_, fun k sz es' hu hk => ?_, fun k r sz es' hu hk => ?_, fun k r es' hu hk => ?_⟩
    · have hr : r < w.heap.size := (Array.getElem?_eq_some_iff.1 hb).1
      refine ⟨(hblk r hr fun ob h => hk ⟨k0, ob, h⟩).trans hb, hf, fun ho => ?_⟩
      rcases hown r ho with h | h
      · exact hk h
      · omega
    · by_cases e : k = k0
      · subst e
        rw [KMap.put_same] at hk
        simp only [Option.some.injEq, Prod.mk.injEq] at hk
        obtain ⟨rfl, rfl⟩ := hk
        exact (hold hu).1 rfl
      · rw [KMap.put_ne _ _ e] at hk
        exact ⟨es', hk, rfl⟩
    · by_cases e : k = k0
      · subst e
        rw [KMap.put_same] at hk
        simp only [Option.some.injEq, Prod.mk.injEq] at hk
        obtain ⟨rfl, rfl⟩ := hk
        exact (hold hu).2 r rfl
      · rw [KMap.put_ne _ _ e] at hk
        refine ⟨some r, es', hk, Nat.le_refl _, fun _ => ⟨rfl, fun c' e1 fr hc => ?_⟩⟩
        have := hblk r (hs.lt hk) (fun ob h => e (hs.inj _ _ _ _ _ hk h))
        exact ⟨c', e1, fr, this ▸ hc, Nat.le_refl _⟩
    · by_cases e : k = k0
      · subst e
        rw [KMap.put_same] at hk
        simp only [Option.some.injEq, Prod.mk.injEq] at hk
        obtain ⟨rfl, rfl⟩ := hk
        exact hold hu r rfl
      · rw [KMap.put_ne _ _ e] at hk
        exact ⟨es', hk⟩
  refine ⟨hstep, .of_holds (fun k => ?_) (fun k x hk => ?_) (fun k k' r ob ob' h h' => ?_) (fun r ho hf => ?_) (fun r hf => Nat.lt_of_lt_of_le (hs.fdom r hf) hsize) (fun k ro ob hk => ?_), ?_⟩
  · rw [St.find_set]
    by_cases e : k = k0
    · subst e; rw [KMap.put_same]; simp
    · rw [KMap.put_ne _ _ e, if_neg e]; exact hs.key k
  · by_cases e : k = k0
    · exact .inr e
    · rw [KMap.put_ne _ _ e] at hk; exact .inl (hs.used k x hk)
  · by_cases e : k = k0
    · subst e
      rw [KMap.put_same] at h
      simp only [Option.some.injEq, Prod.mk.injEq] at h
      by_cases e' : k' = k
      · exact e'.symm
      · rw [KMap.put_ne _ _ e'] at h'
        rcases hnew r h.1 with hh | ⟨ob2, hh⟩
        · have := hs.lt h'; omega
        · exact hs.inj _ _ _ _ _ hh h'
    · rw [KMap.put_ne _ _ e] at h
      by_cases e' : k' = k0
      · subst e'
        rw [KMap.put_same] at h'
        simp only [Option.some.injEq, Prod.mk.injEq] at h'
        rcases hnew r h'.1 with hh | ⟨ob2, hh⟩
        · have := hs.lt h; omega
        · exact hs.inj _ _ _ _ _ h hh
      · rw [KMap.put_ne _ _ e'] at h'
        exact hs.inj _ _ _ _ _ h h'
  · rcases hown r ho with h | h
    · exact hs.foreign r h hf
    · have := hs.fdom r hf; omega
  · by_cases e : k = k0
    · subst e
      rw [KMap.put_same] at hk
      simp only [Option.some.injEq, Prod.mk.injEq] at hk
      obtain ⟨rfl, rfl⟩ := hk
      exact hcont hstep
    · rw [KMap.put_ne _ _ e] at hk
      refine (hs.holds hk).mono hstep fun r hr => ?_
      subst hr
      exact hblk r (hs.lt hk) (fun ob h => e (hs.inj _ _ _ _ _ hk h))
  · exact ⟨hos, htape, hout, hsize, fun r hr hn => hblk r hr fun ob h => hn ⟨k0, ob, h⟩, hown⟩

end Go.Pv

set_option linter.unusedVariables false
namespace Go.Pv
open Go

/-! ### What the tables say of a type -/

inductive TK where
  | struct (fs : List (Nat × Nat × Bool))
  | array (n esz : Nat) (eagg : Bool)
  | slice (esz ebytes : Nat) (e : Nat)
  | map (k e : Nat)
  | int (k : IntKind)
  | str | bool | ptr (e : Nat) | func | other
  deriving Inhabited

structure TyI where
  agg : Bool
  sz : Nat
  bytes : Nat
  kind : TK
  zero : Option PV
  deriving Inhabited

def sPV : Value → PV
  | .bool b => .bool b
  | .int k n => .int k n
  | .string s => .str s
  | .pointer none => .nilPtr
  | .slice none 0 0 => .islice (some 0) []
  | .map none => .nilMap
  | .nilFunc => .nilFunc
  | _ => .any

def toPV : Value → PV
  | .agg cs => .agg (cs.toList.map sPV)
  | .tuple vs => .tup (vs.toList.map sPV)
  | v => sPV v

def aggOf (P : Program) (t : TypeId) : Bool :=
  match P.underlying t with
  | some (.struct _) | some (.array _ _) => true
  | _ => false

def kindOf (P : Program) : TypeDesc → TK
  | .struct fs => if fs.toList.all fun f => (P.underlying f.type).isSome then .struct (fs.toList.map fun f => (f.offset, P.cellsOf f.type, aggOf P f.type)) else .other
  | .array n e => if (P.underlying e).isSome then .array n (P.cellsOf e) (aggOf P e) else .other
  | .slice e => if (P.underlying e).isSome then .slice (P.cellsOf e) (P.bytesOf e) e else .other
  | .map k e => .map k e
  | .int k => .int k
  | .string => .str
  | .bool => .bool
  | .pointer e => .ptr e
  | .func _ _ _ => .func
  | _ => .other

def tyOf (P : Program) (t : TypeId) : Option TyI :=
  match P.info? t, P.underlying t with
  | some i, some d => some { agg := (match d with | .struct _ | .array _ _ => true | _ => false), sz := i.size, bytes := i.bytes, kind := kindOf P d, zero := i.zero.map toPV }
  | _, _ => none

section
variable {P : Program} {w : World} {K : KMap} {U : Key → Prop} {F : Nat → Prop}

theorem rel_sPV (v : Value) : Rel w K U F (sPV v) v := by
  unfold sPV
  split
  · exact .bool _
  · exact .int _ _
  · exact .str _
  · exact .nilPtr
  · exact .inil _ _ _ (fun c' h => by cases h; rfl) (fun _ => rfl)
  · exact .nilMap
  · exact .nilFunc
  · exact .any _

theorem rel_map_sPV (cs : Array Value) (i : Nat) (hi : i < (cs.toList.map sPV).length) : Rel w K U F ((cs.toList.map sPV)[i]) (cs.getD i undef) := by
  have hi' : i < cs.size := by simpa using hi
  have : cs.getD i undef = cs[i] := by simp [Array.getD, hi']
  rw [this]
  simpa using rel_sPV cs[i]

theorem rel_toPV (v : Value) : Rel w K U F (toPV v) v := by
  cases v with
  | agg cs => exact .agg _ _ (by simp) (rel_map_sPV cs)
  | tuple cs => exact .tup _ _ (by simp) (rel_map_sPV cs)
  | _ => (simp only [toPV]; exact rel_sPV _)

theorem rel_undef : Rel w K U F .undef undef := .tup [] _ rfl fun i hi => by simp at hi

/-- The frame's temporaries. -/
def ERel (w : World) (K : KMap) (U : Key → Prop) (F : Nat → Prop) (env : Env) (tmps : Array Value) : Prop :=
  env.length = tmps.size ∧ ∀ t, Rel w K U F (env.getD t .undef) (tmps.getD t undef)

def ev (env : Env) : Operand → PV
  | .tmp t => env.getD t .undef
  | .const v => toPV v
  | .global _ => .any
  | .func f => .func (.func f) [] []

theorem rel_ev {env : Env} {a : Act} (h : ERel w K U F env a.tmps) (x : Operand) : Rel w K U F (ev env x) (a.eval x) := by
  cases x with
  | tmp t => exact h.2 t
  | const v => exact rel_toPV v
  | global g => exact .any _
  | func f => exact .func _ _ _ _ _ rfl rfl (fun i hi => by simp at hi) (fun i hi => by simp at hi)

/-! ### Rows -/

/-- Block r holds the elements es, of sz cells each, from cell o on. -/
def RowAt (w : World) (K : KMap) (U : Key → Prop) (F : Nat → Prop) (r o sz : Nat) (es : List PV) : Prop :=
  ∃ c e fr, w.heap[r]? = some (.cells c e fr) ∧ (∀ x ∈ es, x.cells.length = sz) ∧ o + es.length * sz ≤ c.size ∧
    ∀ j m, (hj : j < es.length) → (hm : m < es[j].cells.length) → Rel w K U F (es[j].cells[m]) (c.getD (o + j * sz + m) undef)

/-- A part of an element. -/
def pload (ty : TyI) (x : PV) (off : Nat) : Option PV :=
  if ty.agg then (if off + ty.sz ≤ x.cells.length then some (.agg ((x.cells.drop off).take ty.sz)) else none) else x.cells[off]?

theorem tyOf_some {t : TypeId} {ty : TyI} (h : tyOf P t = some ty) : ∃ i d, P.info? t = some i ∧ P.underlying t = some d ∧
    ty = { agg := (match d with | .struct _ | .array _ _ => true | _ => false), sz := i.size, bytes := i.bytes, kind := kindOf P d, zero := i.zero.map toPV } := by
  unfold tyOf at h
  split at h
  · rename_i i d h1 h2
    exact ⟨i, d, h1, h2, by simpa using h.symm⟩
  · cases h

theorem run_isAgg_of {t : TypeId} {ty : TyI} (h : tyOf P t = some ty) (w : World) : (isAgg t).run P w = .ok ty.agg w := by
  obtain ⟨i, d, h1, h2, rfl⟩ := tyOf_some h
  cases d <;> simp [isAgg, run_underlying h2]

theorem run_typeInfo_of {t : TypeId} {i : TypeInfo} (h : P.info? t = some i) (w : World) : (typeInfo t).run P w = .ok i w := by
  simp [typeInfo, h]

theorem run_sizeOf_of {t : TypeId} {ty : TyI} (h : tyOf P t = some ty) (w : World) : (sizeOf t).run P w = .ok ty.sz w := by
  obtain ⟨i, d, h1, h2, rfl⟩ := tyOf_some h
  simp [sizeOf, run_typeInfo_of h1]

theorem run_loadVar_of {t : TypeId} {ty : TyI} (ht : tyOf P t = some ty) {r o sz i off : Nat} {es : List PV} {x v : PV} (h : RowAt w K U F r o sz es) (hx : es[i]? = some x) (hl : pload ty x off = some v) :
    ∃ u, (loadVar t ⟨r, o + i * sz + off, none⟩).run P w = .ok u w ∧ Rel w K U F v u := by
  obtain ⟨c, e, fr, hb, hsz, hin, hc⟩ := h
  obtain ⟨hi, rfl⟩ := List.getElem?_eq_some_iff.1 hx
  have hs : es[i].cells.length = sz := hsz _ (List.getElem_mem hi)
  have hcell : ∀ m, m < es[i].cells.length → w.cell? ⟨r, o + i * sz + m, none⟩ = some (c.getD (o + i * sz + m) undef) := by
    intro m hm
    have h1 : (i + 1) * sz ≤ es.length * sz := Nat.mul_le_mul_right _ hi
    have h2 : (i + 1) * sz = i * sz + sz := by rw [Nat.add_mul, Nat.one_mul]
    have hlt : o + i * sz + m < c.size := by omega
    simp [World.cell?, hb, hlt]
  unfold pload at hl
  simp only [loadVar, Sem.run_bind, run_isAgg_of ht, Result.andThen_ok]
  cases hagg : ty.agg with
  | true =>
    simp only [hagg, if_true] at hl ⊢
    split at hl
    · rename_i hle
      simp only [Option.some.injEq] at hl
      subst hl
      have hrun := run_loadCells (P := P) w ⟨r, o + i * sz + off, none⟩ ty.sz (fun j => c.getD (o + i * sz + off + j) undef) (fun j hj => by
        rw [Addr.add_lit, Nat.add_assoc (o + i * sz)]
        exact hcell (off + j) (by omega))
      simp only [Sem.run_bind, run_sizeOf_of ht, Result.andThen_ok, hrun, Sem.run_pure]
      refine ⟨_, rfl, .agg _ _ (by simp; omega) fun m hm => ?_⟩
      have hm' : m < ty.sz := by simp at hm; omega
      have e1 : ((List.range ty.sz).map fun j => c.getD (o + i * sz + off + j) undef).toArray.getD m undef = c.getD (o + i * sz + off + m) undef := by
        simp [Array.getD, hm']
      rw [e1]
      have := hc i (off + m) hi (by omega)
      simp only [List.getElem_take, List.getElem_drop]
      rw [Nat.add_assoc (o + i * sz)]
      exact this
    · cases hl
  | false =>
    simp only [hagg, Bool.false_eq_true, if_false] at hl ⊢
    obtain ⟨hm, rfl⟩ := List.getElem?_eq_some_iff.1 hl
    rw [run_load, hcell off hm]
    exact ⟨_, rfl, hc i off hi hm⟩

end
end Go.Pv

set_option linter.unusedVariables false
namespace Go.Pv
open Go

def PV.known : PV → Bool
  | .any | .val _ => false
  | _ => true

/-- Parts laid into a struct's or an array's cells. -/
def pfill (place : Nat → Option (Nat × Nat)) (cells : List PV) : List (Nat × PV) → Option (List PV)
  | [] => some cells
  | (i, v) :: r =>
    match place i with
    | none => none
    | some (off, sz) => if v.known = true ∧ v.cells.length = sz ∧ off + v.cells.length ≤ cells.length then pfill place (cells.take off ++ (v.cells ++ cells.drop (off + v.cells.length))) r else none

def sEq : PV → PV → Option Bool
  | .bool a, .bool b => some (a == b)
  | .int k a, .int k' b => if k = k' then some (a == b) else none
  | .str a, .str b => some (a == b)
  | _, _ => none

def lEq : List PV → List PV → Option Bool
  | [], [] => some true
  | a :: r, b :: r' =>
    match sEq a b, lEq r r' with
    | some x, some y => some (x && y)
    | _, _ => none
  | _, _ => none

def pEq : PV → PV → Option Bool
  | .agg a, .agg b => lEq a b
  | a, b => sEq a b

def pArith (op : BinOp) (k : IntKind) (a b : Int) : Option PV :=
  match op with
  | .add => some (.int k (k.wrap (a + b)))
  | .sub => some (.int k (k.wrap (a - b)))
  | .mul => some (.int k (k.wrap (a * b)))
  | .quo => if b = 0 then none else some (.int k (k.wrap (a.tdiv b)))
  | .rem => if b = 0 then none else some (.int k (a.tmod b))
  | .eql => some (.bool (a == b))
  | .neq => some (.bool (a != b))
  | .lss => some (.bool (a < b))
  | .leq => some (.bool (a ≤ b))
  | .gtr => some (.bool (a > b))
  | .geq => some (.bool (a ≥ b))
  | .and => some (.int k (k.wrap (BitVec.ofInt k.bits a &&& BitVec.ofInt k.bits b).toNat))
  | .or => some (.int k (k.wrap (BitVec.ofInt k.bits a ||| BitVec.ofInt k.bits b).toNat))
  | .xor => some (.int k (k.wrap (BitVec.ofInt k.bits a ^^^ BitVec.ofInt k.bits b).toNat))
  | .andNot => some (.int k (k.wrap (BitVec.ofInt k.bits a &&& ~~~(BitVec.ofInt k.bits b)).toNat))
  | .shl | .shr => none

section
variable {P : Program} {w : World} {K : KMap} {U : Key → Prop} {F : Nat → Prop}

theorem rel_bool {b : Bool} {v : Value} (h : Rel w K U F (.bool b) v) : v = .bool b := by cases h; rfl
theorem rel_int {k : IntKind} {n : Int} {v : Value} (h : Rel w K U F (.int k n) v) : v = .int k n := by cases h; rfl
theorem rel_str {s : ByteArray} {v : Value} (h : Rel w K U F (.str s) v) : v = .string s := by cases h; rfl

theorem run_arith {op : BinOp} {k : IntKind} {a b : Int} {v : PV} (t : TypeId) (h : pArith op k a b = some v) :
    ∃ u, (binOp op t (.int k a) (.int k b)).run P w = .ok u w ∧ Rel w K U F v u := by
  unfold pArith at h
  cases op <;> simp only [Option.some.injEq, reduceCtorEq] at h
  all_goals first
    | (subst h; refine ⟨_, ?_, .int _ _⟩; simp [binOp, Op.intArith, Op.intBits]; done)
    | (subst h; refine ⟨_, ?_, .bool _⟩; simp [binOp, Op.intCmp]; done)
    | (split at h
       · cases h
       · rename_i hb
         simp only [Option.some.injEq] at h
         subst h
         refine ⟨_, ?_, .int _ _⟩
         simp [binOp, Op.intDiv, hb])

end
end Go.Pv

set_option linter.unusedVariables false
namespace Go.Pv
open Go

/-! ### '==' on values of flat types -/

inductive SK where | b | i | s
  deriving DecidableEq

def flatFs (P : Program) (g : TypeId → Option (List SK)) : List Field → Nat → Option (List SK)
  | [], _ => some []
  | f :: r, off =>
    if f.name = "_" ∨ f.offset ≠ off then none else
    match g f.type with
    | none => none
    | some l =>
      if l.length ≠ P.cellsOf f.type ∨ l.length = 0 then none else
      match flatFs P g r (off + l.length) with
      | none => none
      | some l' => some (l ++ l')

def flatOf (P : Program) : Nat → TypeId → Option (List SK)
  | 0, _ => none
  | d + 1, t =>
    match P.underlying t with
    | some .bool => some [.b]
    | some (.int _) => some [.i]
    | some .string => some [.s]
    | some (.struct fs) => if P.stoodInHeld t then none else flatFs P (flatOf P d) fs.toList 0
    | some (.array n e) => match flatOf P d e with
      | some l => if l.length ≠ P.cellsOf e ∨ l.length = 0 then none else some (List.replicate n l).flatten
      | none => none
    | _ => none

/-- The kinds of a type's cells, where '==' goes cell by cell. -/
def flatT (P : Program) (t : TypeId) : Option (List SK) :=
  if aggOf P t && P.eqGuardType P.depth t then none else flatOf P 20 t

def svEq : SK → Value → Value → Option Bool
  | .b, .bool a, .bool b => some (a == b)
  | .i, .int k a, .int k' b => if k = k' then some (a == b) else none
  | .s, .string a, .string b => some (a == b)
  | _, _, _ => none

def lvEq : List SK → List Value → List Value → Option Bool
  | [], [], [] => some true
  | k :: ks, a :: r, b :: r' =>
    match svEq k a b, lvEq ks r r' with
    | some x, some y => some (x && y)
    | _, _ => none
  | _, _, _ => none

theorem lvEq_len : ∀ (ks : List SK) (a b : List Value) (r : Bool), lvEq ks a b = some r → a.length = ks.length ∧ b.length = ks.length
  | [], [], [], _, _ => ⟨rfl, rfl⟩
  | k :: ks, a :: x, b :: y, r, h => by
    simp only [lvEq] at h
    split at h
    · rename_i h1 h2
      obtain ⟨h3, h4⟩ := lvEq_len ks x y _ h2
      exact ⟨by simp [h3], by simp [h4]⟩
    · cases h
  | [], _ :: _, _, _, h => by simp [lvEq] at h
  | [], [], _ :: _, _, h => by simp [lvEq] at h
  | _ :: _, [], _, _, h => by simp [lvEq] at h
  | _ :: _, _ :: _, [], _, h => by simp [lvEq] at h

theorem lvEq_append (ks ls : List SK) : ∀ (a b : List Value) (r : Bool), lvEq (ks ++ ls) a b = some r →
    ∃ x y, lvEq ks (a.take ks.length) (b.take ks.length) = some x ∧ lvEq ls (a.drop ks.length) (b.drop ks.length) = some y ∧ r = (x && y) := by
  induction ks with
  | nil => intro a b r h; exact ⟨true, r, by simp [lvEq], by simpa using h, by simp⟩
  | cons k ks ih =>
    intro a b r h
    obtain ⟨h1, h2⟩ := lvEq_len _ _ _ _ h
    cases a with
    | nil => simp at h1
    | cons a0 a =>
      cases b with
      | nil => simp at h2
      | cons b0 b =>
        simp only [List.cons_append, lvEq] at h
        split at h
        · rename_i x1 y1 h3 h4
          obtain ⟨x, y, h5, h6, rfl⟩ := ih a b _ h4
          simp only [Option.some.injEq] at h
          subst h
          refine ⟨x1 && x, y, ?_, by simpa using h6, by simp [Bool.and_assoc]⟩
          simp only [List.length_cons, List.take_succ_cons, lvEq, h3, h5]
        · cases h

section
variable {P : Program}

theorem run_part {t : TypeId} {d : TypeDesc} {i : TypeInfo} (h : P.underlying t = some d) (hi : P.info? t = some i) (cs : Array Value) (off : Nat) (w : World) :
    (part t cs off).run P w = if aggOf P t then .ok (.agg (cs.extract off (off + P.cellsOf t))) w else match cs[off]? with | some v => .ok v w | none => .halt (.stuck "part: no such cell") w := by
  have h1 : (isAgg t).run P w = .ok (aggOf P t) w := by cases d <;> simp [isAgg, run_underlying h, aggOf, h]
  have h2 : (sizeOf t).run P w = .ok (P.cellsOf t) w := by simp [sizeOf, run_typeInfo_of hi, Program.cellsOf, hi]
  simp only [part, Sem.run_bind, h1, Result.andThen_ok]
  cases aggOf P t
  · simp only [Bool.false_eq_true, if_false]
    cases cs[off]? <;> simp
  · simp [h2]

/-- The cells of a part. -/
def pcells (xs : Array Value) (off n : Nat) : List Value := (xs.toList.drop off).take n

theorem agg_extract (xs : Array Value) (off n : Nat) : (xs.extract off (off + n)).toList = pcells xs off n := by
  simp [pcells, List.extract_eq_take_drop]

/-- What a value of a flat type is, cell by cell. -/
def vcells : Value → List Value
  | .agg a => a.toList
  | v => [v]

def EqAt (P : Program) (D : Nat) (t : TypeId) (ks : List SK) : Prop :=
  ∀ (x y : Value) (r : Bool) (w : World), (aggOf P t = true → (∃ a, x = .agg a) ∧ ∃ b, y = .agg b) → (aggOf P t = false → (∀ a, x ≠ .agg a) ∧ ∀ b, y ≠ .agg b) → lvEq ks (vcells x) (vcells y) = some r → (Op.equalIn D t x y).run P w = .ok r w

theorem flat_len {d : Nat} {t : TypeId} {ks : List SK} (h : flatOf P d t = some ks) (ha : aggOf P t = false) : ks.length = 1 := by
  cases d with
  | zero => simp [flatOf] at h
  | succ d =>
    simp only [flatOf] at h
    split at h
    · cases h; rfl
    · cases h; rfl
    · cases h; rfl
    · rename_i hu; simp [aggOf, hu] at ha
    · rename_i hu; simp [aggOf, hu] at ha
    · cases h

theorem lvEq_one (ks : List SK) (p q : Value) (r : Bool) (h : lvEq ks [p] [q] = some r) : (∀ a, p ≠ .agg a) ∧ ∀ a, q ≠ .agg a := by
  cases ks with
  | nil => simp [lvEq] at h
  | cons k ks =>
    simp only [lvEq] at h
    split at h
    · rename_i hk _
      constructor <;> (rintro a rfl; cases k <;> simp [svEq] at hk)
    · cases h

theorem vcells_one {v : Value} (hv : ∀ a, v ≠ .agg a) : vcells v = [v] := by
  cases v <;> first | rfl | exact absurd rfl (hv _)

theorem eq_part {D : Nat} {t : TypeId} {l : List SK} (hEq : EqAt P D t l) {d : TypeDesc} (hd : P.underlying t = some d) (hone : aggOf P t = false → l.length = 1) (hlen : l.length = P.cellsOf t) (hpos : 0 < l.length)
    (xs ys : Array Value) (off : Nat) (x : Bool) (w : World) (hx0 : off + l.length ≤ xs.size) (hy0 : off + l.length ≤ ys.size)
    (h1 : lvEq l ((xs.toList.drop off).take l.length) ((ys.toList.drop off).take l.length) = some x) :
    ∃ u v, (part t xs off).run P w = .ok u w ∧ (part t ys off).run P w = .ok v w ∧ (Op.equalIn D t u v).run P w = .ok x w := by
  obtain ⟨i, hi⟩ := info_of_underlying hd
  simp only [run_part hd hi]
  cases hagg : aggOf P t with
  | true =>
    refine ⟨_, _, by rw [if_pos rfl], by rw [if_pos rfl], hEq _ _ x w (fun _ => ⟨⟨_, rfl⟩, ⟨_, rfl⟩⟩) (fun e => by rw [hagg] at e; cases e) ?_⟩
    rw [vcells, vcells, agg_extract, agg_extract, ← hlen]
    exact h1
  | false =>
    have h1l := hone hagg
    have ex : xs[off]? = some (xs[off]'(by omega)) := Array.getElem?_eq_getElem (by omega)
    have ey : ys[off]? = some (ys[off]'(by omega)) := Array.getElem?_eq_getElem (by omega)
    have tx : (xs.toList.drop off).take l.length = [xs[off]'(by omega)] := by
      rw [h1l, List.drop_eq_getElem_cons (by simp; omega)]; simp
    have ty : (ys.toList.drop off).take l.length = [ys[off]'(by omega)] := by
      rw [h1l, List.drop_eq_getElem_cons (by simp; omega)]; simp
    obtain ⟨n1, n2⟩ := lvEq_one l (xs[off]'(by omega)) (ys[off]'(by omega)) x (by rw [← tx, ← ty]; exact h1)
    refine ⟨xs[off]'(by omega), ys[off]'(by omega), by simp only [Bool.false_eq_true, if_false, ex], by simp only [Bool.false_eq_true, if_false, ey], hEq _ _ x w (fun e => by rw [hagg] at e; cases e) (fun _ => ⟨n1, n2⟩) ?_⟩
    rw [vcells_one n1, vcells_one n2, ← tx, ← ty]
    exact h1

theorem eq_fields {D : Nat} (g : TypeId → Option (List SK)) (hg : ∀ t ks, g t = some ks → EqAt P D t ks ∧ (∃ d, P.underlying t = some d) ∧ (aggOf P t = false → ks.length = 1)) (xs ys : Array Value) :
    ∀ (fs : List Field) (off : Nat) (ks : List SK) (r : Bool) (w : World), flatFs P g fs off = some ks → lvEq ks (xs.toList.drop off) (ys.toList.drop off) = some r → (Op.eqFields D xs ys fs).run P w = .ok r w
  | [], off, ks, r, w, h, he => by
    simp only [flatFs, Option.some.injEq] at h
    subst h
    have := lvEq_len _ _ _ _ he
    cases hx : xs.toList.drop off <;> cases hy : ys.toList.drop off <;> simp_all [lvEq, Op.eqFields]
  | f :: fs, off, ks, r, w, h, he => by
    simp only [flatFs] at h
    split at h
    · cases h
    rename_i hn
    have hname : f.name ≠ "_" := fun e => hn (.inl e)
    have hoff : f.offset = off := Decidable.not_not.1 fun e => hn (.inr e)
    cases hl : g f.type with
    | none => rw [hl] at h; cases h
    | some l =>
      rw [hl] at h
      simp only at h
      split at h
      · cases h
      rename_i hlen
      have hpos : 0 < l.length := Nat.pos_of_ne_zero fun e => hlen (.inr e)
      have hlen : l.length = P.cellsOf f.type := Decidable.not_not.1 fun e => hlen (.inl e)
      cases hr : flatFs P g fs (off + l.length) with
      | none => rw [hr] at h; cases h
      | some l' =>
        rw [hr] at h
        simp only [Option.some.injEq] at h
        subst h
        obtain ⟨x, y, h1, h2, rfl⟩ := lvEq_append l l' _ _ _ he
        obtain ⟨hEq, ⟨d, hd⟩, hone⟩ := hg _ _ hl
        obtain ⟨hlx, hly⟩ := lvEq_len _ _ _ _ he
        have hx0 : off + l.length ≤ xs.size := by
          have := hlx; simp at this; omega
        have hy0 : off + l.length ≤ ys.size := by
          have := hly; simp at this; omega
        obtain ⟨u, v, p1, p2, p3⟩ := eq_part hEq hd hone hlen hpos xs ys off x w hx0 hy0 h1
        simp only [Op.eqFields, if_pos hname, hoff, Sem.run_bind, p1, p2, p3, Result.andThen_ok]
        cases x with
        | false => simp
        | true =>
          simp only [Bool.not_true, Bool.false_eq_true, if_false, Bool.true_and]
          exact eq_fields g hg xs ys fs (off + l.length) l' y w hr (by rw [List.drop_drop, List.drop_drop] at h2; exact h2)

theorem eq_items {D : Nat} {e : TypeId} {l : List SK} (hEq : EqAt P D e l) {d : TypeDesc} (hd : P.underlying e = some d) (hone : aggOf P e = false → l.length = 1) (hlen : l.length = P.cellsOf e) (hpos : 0 < l.length) (xs ys : Array Value) :
    ∀ (m s : Nat) (r : Bool) (w : World), lvEq (List.replicate m l).flatten (xs.toList.drop (s * P.cellsOf e)) (ys.toList.drop (s * P.cellsOf e)) = some r → (Op.eqItems D e (P.cellsOf e) xs ys (List.range' s m)).run P w = .ok r w
  | 0, s, r, w, he => by
    have := lvEq_len _ _ _ _ he
    cases hx : xs.toList.drop (s * P.cellsOf e) <;> cases hy : ys.toList.drop (s * P.cellsOf e) <;> simp_all [lvEq, Op.eqItems]
  | m + 1, s, r, w, he => by
    rw [List.replicate_succ, List.flatten_cons] at he
    obtain ⟨x, y, h1, h2, rfl⟩ := lvEq_append l _ _ _ _ he
    obtain ⟨hlx, hly⟩ := lvEq_len _ _ _ _ he
    have hx0 : s * P.cellsOf e + l.length ≤ xs.size := by
      have := hlx; simp at this; omega
    have hy0 : s * P.cellsOf e + l.length ≤ ys.size := by
      have := hly; simp at this; omega
    obtain ⟨u, v, p1, p2, p3⟩ := eq_part hEq hd hone hlen hpos xs ys _ x w hx0 hy0 h1
    simp only [List.range'_succ, Op.eqItems, Sem.run_bind, p1, p2, p3, Result.andThen_ok]
    cases x with
    | false => simp
    | true =>
      simp only [Bool.not_true, Bool.false_eq_true, if_false, Bool.true_and]
      refine eq_items hEq hd hone hlen hpos xs ys m (s + 1) y w ?_
      rw [List.drop_drop, List.drop_drop] at h2
      rw [Nat.add_mul, Nat.one_mul, ← hlen]
      rw [← hlen] at h2
      exact h2

theorem flat_eq : ∀ (d D : Nat) (t : TypeId) (ks : List SK), flatOf P d t = some ks → d ≤ D → EqAt P D t ks
  | 0, _, _, _, h, _ => by simp [flatOf] at h
  | d + 1, 0, _, _, _, hD => by omega
  | d + 1, D + 1, t, ks, h, hD => by
    intro x y r w hag hna he
    simp only [flatOf] at h
    split at h
    · rename_i hu
      cases h
      have ha : aggOf P t = false := by simp [aggOf, hu]
      cases x <;> cases y <;> simp [vcells, lvEq, svEq] at he <;> first | (subst he; simp [Op.equalIn, run_underlying hu]; done) | (exfalso; exact (hna ha).1 _ rfl) | (exfalso; exact (hna ha).2 _ rfl)
    · rename_i k hu
      cases h
      have ha : aggOf P t = false := by simp [aggOf, hu]
      cases x <;> cases y <;> simp [vcells, lvEq, svEq] at he <;> first | (exfalso; exact (hna ha).1 _ rfl) | (exfalso; exact (hna ha).2 _ rfl) | skip
      split at he
      · rename_i x1 y1 h1 h2
        split at h1
        · rename_i hk
          subst hk
          simp only [Option.some.injEq] at h1 h2 he
          subst h1; subst h2; subst he
          simp [Op.equalIn, run_underlying hu]
        · cases h1
      · cases he
    · rename_i hu
      cases h
      have ha : aggOf P t = false := by simp [aggOf, hu]
      cases x <;> cases y <;> simp [vcells, lvEq, svEq] at he <;> first | (subst he; simp [Op.equalIn, run_underlying hu]; done) | (exfalso; exact (hna ha).1 _ rfl) | (exfalso; exact (hna ha).2 _ rfl)
    · rename_i fs hu
      split at h
      · cases h
      rename_i hst
      have ha : aggOf P t = true := by simp [aggOf, hu]
      obtain ⟨⟨xs, rfl⟩, ⟨ys, rfl⟩⟩ := hag ha
      have hf : P.fieldsOf t = fs := by simp [Program.fieldsOf, hu]
      rw [run_equalIn_struct w D t xs ys (by rw [hf]; exact hu) (by simpa using hst), hf]
      refine eq_fields (flatOf P d) (fun t' ks' ht' => ⟨flat_eq d D t' ks' ht' (by omega), ?_, flat_len ht'⟩) xs ys fs.toList 0 ks r w h (by simpa [vcells] using he)
      cases d with
      | zero => simp [flatOf] at ht'
      | succ d =>
        simp only [flatOf] at ht'
        cases hu' : P.underlying t' with
        | none => rw [hu'] at ht'; cases ht'
        | some d' => exact ⟨d', rfl⟩
    · rename_i n e hu
      have ha : aggOf P t = true := by simp [aggOf, hu]
      obtain ⟨⟨xs, rfl⟩, ⟨ys, rfl⟩⟩ := hag ha
      cases hl : flatOf P d e with
      | none => rw [hl] at h; cases h
      | some l =>
        rw [hl] at h
        simp only at h
        split at h
        · cases h
        rename_i hlen
        have hpos : 0 < l.length := Nat.pos_of_ne_zero fun e => hlen (.inr e)
        have hlen : l.length = P.cellsOf e := Decidable.not_not.1 fun e => hlen (.inl e)
        simp only [Option.some.injEq] at h
        subst h
        have hd : ∃ d', P.underlying e = some d' := by
          cases d with
          | zero => simp [flatOf] at hl
          | succ d =>
            simp only [flatOf] at hl
            cases hu' : P.underlying e with
            | none => rw [hu'] at hl; cases hl
            | some d' => exact ⟨d', rfl⟩
        obtain ⟨d', hd'⟩ := hd
        obtain ⟨i, hi⟩ := info_of_underlying hd'
        rw [run_equalIn_array w D xs ys hu hi, List.range_eq_range']
        exact eq_items (flat_eq d D e l hl (by omega)) hd' (flat_len hl) hlen hpos xs ys n 0 r w (by simpa [vcells] using he)
    · cases h
end
end Go.Pv

set_option linter.unusedVariables false
namespace Go.Pv
open Go

def pEqS : SK → PV → PV → Option Bool
  | .b, .bool a, .bool b => some (a == b)
  | .i, .int k a, .int k' b => if k = k' then some (a == b) else none
  | .s, .str a, .str b => some (a == b)
  | _, _, _ => none

def pEqL : List SK → List PV → List PV → Option Bool
  | [], [], [] => some true
  | k :: ks, a :: r, b :: r' =>
    match pEqS k a b, pEqL ks r r' with
    | some x, some y => some (x && y)
    | _, _ => none
  | _, _, _ => none

/-- '==' of two values of type t. -/
def pEqT (P : Program) (t : TypeId) (p q : PV) : Option Bool :=
  match flatT P t with
  | some ks => if aggOf P t then (match p, q with
      | .agg a, .agg b => pEqL ks a b
      | _, _ => none) else pEqL ks [p] [q]
  | none => none

section
variable {P : Program} {w : World} {K : KMap} {U : Key → Prop} {F : Nat → Prop}

theorem rel_eqS {k : SK} {p q : PV} {x y : Value} {r : Bool} (h : pEqS k p q = some r) (hx : Rel w K U F p x) (hy : Rel w K U F q y) : svEq k x y = some r := by
  unfold pEqS at h
  split at h
  · cases rel_bool hx; cases rel_bool hy; exact h
  · cases rel_int hx; cases rel_int hy; exact h
  · cases rel_str hx; cases rel_str hy; exact h
  · cases h

theorem rel_eqL : ∀ {ks : List SK} {ps qs : List PV} {xs ys : List Value} {r : Bool}, pEqL ks ps qs = some r → ps.length = xs.length → qs.length = ys.length →
    (∀ i, (hi : i < ps.length) → Rel w K U F ps[i] (xs.getD i undef)) → (∀ i, (hi : i < qs.length) → Rel w K U F qs[i] (ys.getD i undef)) → lvEq ks xs ys = some r
  | [], [], [], [], [], _, h, _, _, _, _ => h
  | k :: ks, p :: ps, q :: qs, x :: xs, y :: ys, r, h, h1, h2, h3, h4 => by
    simp only [pEqL] at h
    split at h
    · rename_i a b ha hb
      have e1 : svEq k x y = some a := rel_eqS ha (h3 0 (Nat.succ_pos _)) (h4 0 (Nat.succ_pos _))
      have e2 := rel_eqL hb (by simpa using h1) (by simpa using h2) (fun i hi => h3 (i + 1) (Nat.succ_lt_succ hi)) (fun i hi => h4 (i + 1) (Nat.succ_lt_succ hi))
      simp only [lvEq, e1, e2]
      exact h
    · cases h
  | [], p :: ps, _, _, _, _, h, _, _, _, _ => by simp [pEqL] at h
  | [], [], q :: qs, _, _, _, h, _, _, _, _ => by simp [pEqL] at h
  | k :: ks, [], _, _, _, _, h, _, _, _, _ => by simp [pEqL] at h
  | k :: ks, p :: ps, [], _, _, _, h, _, _, _, _ => by simp [pEqL] at h
  | k :: ks, p :: ps, q :: qs, [], _, _, h, h1, _, _, _ => by simp at h1
  | k :: ks, p :: ps, q :: qs, x :: xs, [], _, h, _, h2, _, _ => by simp at h2
  | [], [], [], x :: xs, _, _, h, h1, _, _, _ => by simp at h1
  | [], [], [], [], y :: ys, _, h, _, h2, _, _ => by simp at h2

theorem run_equal_of {t : TypeId} {p q : PV} {x y : Value} {r : Bool} (h : pEqT P t p q = some r) (hx : Rel w K U F p x) (hy : Rel w K U F q y) (w' : World) :
    (Op.equal t x y).run P w' = .ok r w' ∧ (aggOf P t = true → P.eqGuardType P.depth t = false ∧ (∃ a, x = .agg a) ∧ ∃ b, y = .agg b) ∧ (aggOf P t = false → (∀ a, x ≠ .agg a) ∧ (∀ a, y ≠ .agg a) ∧ (x ≠ .nilIface)) := by
  unfold pEqT at h
  cases hf : flatT P t with
  | none => rw [hf] at h; cases h
  | some ks =>
    rw [hf] at h
    simp only at h
    have hfl : flatOf P 20 t = some ks ∧ (aggOf P t = true → P.eqGuardType P.depth t = false) := by
      unfold flatT at hf
      split at hf
      · cases hf
      · rename_i hn
        refine ⟨hf, fun ha => ?_⟩
        simp only [ha, Bool.true_and, Bool.not_eq_true] at hn
        exact hn
    have hE := flat_eq 20 Op.maxDepth t ks hfl.1 (by simp [Op.maxDepth])
    cases ha : aggOf P t with
    | true =>
      rw [ha] at h
      simp only [if_true] at h
      split at h
      · rename_i a b
        cases hx with
        | agg _ xs h1 h2 =>
        cases hy with
        | agg _ ys h3 h4 =>
        refine ⟨hE _ _ r w' (fun _ => ⟨⟨_, rfl⟩, ⟨_, rfl⟩⟩) (fun e => by rw [ha] at e; cases e) ?_, fun _ => ⟨hfl.2 ha, ⟨_, rfl⟩, ⟨_, rfl⟩⟩, nofun⟩
        exact rel_eqL h (by simpa [vcells] using h1) (by simpa [vcells] using h3) (fun i hi => by simpa [vcells] using h2 i hi) (fun i hi => by simpa [vcells] using h4 i hi)
      · cases h
    | false =>
      rw [ha] at h
      simp only [Bool.false_eq_true, if_false] at h
      have hv := rel_eqL (xs := [x]) (ys := [y]) h rfl rfl (fun i hi => by
        obtain rfl : i = 0 := by simp at hi; omega
        simpa using hx) (fun i hi => by
        obtain rfl : i = 0 := by simp at hi; omega
        simpa using hy)
      obtain ⟨n1, n2⟩ := lvEq_one ks x y r hv
      refine ⟨hE _ _ r w' (fun e => by rw [ha] at e; cases e) (fun _ => ⟨n1, n2⟩) (by rw [vcells_one n1, vcells_one n2]; exact hv), nofun, fun _ => ⟨n1, n2, ?_⟩⟩
      rintro rfl
      cases ks with
      | nil => simp [lvEq] at hv
      | cons k ks => cases k <;> simp [lvEq, svEq] at hv

/-- A binary operation. -/
def pbin (P : Program) (op : BinOp) (t : TypeId) (p q : PV) : Option PV :=
  match p, q with
  | .int k a, .int k' b =>
    match op with
    | .shl => if b < 0 then none else some (.int k (k.wrap (a * 2 ^ (min b.toNat k.bits))))
    | .shr => if b < 0 then none else some (.int k (a.fdiv (2 ^ (min b.toNat k.bits))))
    | _ => if k = k' then pArith op k a b else none
  | .str a, .str b =>
    match op with
    | .eql => some (.bool (a == b))
    | .neq => some (.bool (!(a == b)))
    | _ => none
  | p, q =>
    match op with
    | .eql => (pEqT P t p q).map .bool
    | .neq => (pEqT P t p q).map fun b => .bool (!b)
    | _ => none

theorem run_eqGuard_of {op : BinOp} {t : TypeId} {x y : Operand} {u v : Value} (h : (∀ a, u ≠ .agg a) ∧ (u ≠ .nilIface) ∨ ((∃ a, u = .agg a) ∧ (∃ b, v = .agg b) ∧ P.eqGuardType P.depth t = false)) (w : World) : (eqGuard op t x y u v).run P w = .ok () w := by
  rcases h with ⟨h1, h2⟩ | ⟨⟨a, rfl⟩, ⟨b, rfl⟩, h3⟩
  · cases op <;> cases u <;> first | rfl | exact absurd rfl (h1 _) | exact absurd rfl h2
  · exact run_eqGuard_agg w op t x y a b h3

theorem run_pbin {op : BinOp} {t : TypeId} {x y : Operand} {p q r : PV} {u v : Value} (h : pbin P op t p q = some r) (hx : Rel w K U F p u) (hy : Rel w K U F q v) :
    ∃ z, (do eqGuard op t x y u v; binOp op t u v : Sem Value).run P w = .ok z w ∧ Rel w K U F r z := by
  unfold pbin at h
  split at h
  · rename_i k a k' b
    cases rel_int hx; cases rel_int hy
    have hg : (eqGuard op t x y (.int k a) (.int k' b)).run P w = .ok () w := run_eqGuard_of (.inl ⟨by simp, by simp⟩) w
    simp only [Sem.run_bind, hg, Result.andThen_ok]
    split at h
    · split at h
      · cases h
      · rename_i hb
        simp only [Option.some.injEq] at h; subst h
        refine ⟨_, ?_, .int _ _⟩
        simp [binOp, Op.shift, hb]
    · split at h
      · cases h
      · rename_i hb
        simp only [Option.some.injEq] at h; subst h
        refine ⟨_, ?_, .int _ _⟩
        simp [binOp, Op.shift, hb]
    · split at h
      · rename_i hk
        subst hk
        exact run_arith (P := P) t h
      · cases h
  · rename_i a b
    cases rel_str hx; cases rel_str hy
    have hg : (eqGuard op t x y (.string a) (.string b)).run P w = .ok () w := run_eqGuard_of (.inl ⟨by simp, by simp⟩) w
    simp only [Sem.run_bind, hg, Result.andThen_ok]
    split at h
    · simp only [Option.some.injEq] at h; subst h
      refine ⟨_, ?_, .bool _⟩
      simp [binOp, Op.stringOp, beq_toListBytes]
    · simp only [Option.some.injEq] at h; subst h
      refine ⟨_, ?_, .bool _⟩
      simp [binOp, Op.stringOp, beq_toListBytes]
    · cases h
  · rename_i n1 n2
    have both : ∀ b, pEqT P t p q = some b → (∃ b1 b2, u = .bool b1 ∧ v = .bool b2) ∨ ((∃ a, u = .agg a) ∧ (∃ b, v = .agg b) ∧ P.eqGuardType P.depth t = false) := by
      intro b hb
      obtain ⟨h1, h2, h3⟩ := run_equal_of hb hx hy w
      cases ha : aggOf P t with
      | true =>
        obtain ⟨h4, h5, h6⟩ := h2 ha
        exact .inr ⟨h5, h6, h4⟩
      | false =>
        unfold pEqT at hb
        split at hb
        · rename_i ks _
          rw [ha] at hb
          simp only [Bool.false_eq_true, if_false] at hb
          cases ks with
          | nil => simp [pEqL] at hb
          | cons k ks =>
            simp only [pEqL] at hb
            split at hb
            · rename_i hk _
              unfold pEqS at hk
              split at hk
              · exact .inl ⟨_, _, rel_bool hx, rel_bool hy⟩
              · exact absurd rfl (n1 _ _ _ _ rfl)
              · exact absurd rfl (n2 _ _ rfl)
              · cases hk
            · cases hb
        · cases hb
    have go : ∀ b, pEqT P t p q = some b → (eqGuard op t x y u v).run P w = .ok () w ∧ (binOp .eql t u v).run P w = .ok (.bool b) w ∧ (binOp .neq t u v).run P w = .ok (.bool (!b)) w := by
      intro b hb
      obtain ⟨h1, _, _⟩ := run_equal_of hb hx hy w
      rcases both b hb with ⟨b1, b2, rfl, rfl⟩ | ⟨⟨a, rfl⟩, ⟨b', rfl⟩, h3⟩
      · exact ⟨run_eqGuard_of (.inl ⟨by simp, by simp⟩) w, by simp [binOp, h1], by simp [binOp, h1]⟩
      · exact ⟨run_eqGuard_of (.inr ⟨⟨_, rfl⟩, ⟨_, rfl⟩, h3⟩) w, by simp [binOp, h1], by simp [binOp, h1]⟩
    split at h
    · cases hb : pEqT P t p q with
      | none => rw [hb] at h; cases h
      | some b =>
        rw [hb] at h
        simp only [Option.map_some, Option.some.injEq] at h
        subst h
        obtain ⟨g1, g2, g3⟩ := go b hb
        simp only [Sem.run_bind, g1, Result.andThen_ok, g2]
        exact ⟨_, rfl, .bool _⟩
    · cases hb : pEqT P t p q with
      | none => rw [hb] at h; cases h
      | some b =>
        rw [hb] at h
        simp only [Option.map_some, Option.some.injEq] at h
        subst h
        obtain ⟨g1, g2, g3⟩ := go b hb
        simp only [Sem.run_bind, g1, Result.andThen_ok, g3]
        exact ⟨_, rfl, .bool _⟩
    · cases h
end
end Go.Pv

set_option linter.unusedVariables false
namespace Go.Pv
open Go

/-- A part of a row of cells: of a struct's or an array's value. -/
def ppart (agg : Bool) (sz : Nat) (cs : List PV) (off : Nat) : Option PV :=
  if agg then (if off + sz ≤ cs.length then some (.agg ((cs.drop off).take sz)) else none) else cs[off]?

/-- The element that an address leads to. -/
def pelem (S : St) : PV → Option (PV × Nat)
  | .iptr es i off => (es[i]?).map (·, off)
  | .ptr k n i off =>
    match S.find k with
    | some (.row _ es) => if es.length = n then (es[i]?).map (·, off) else none
    | _ => none
  | _ => none

def PV.scalar : PV → Bool
  | .agg _ => false
  | _ => true

theorem PV.scalar_cells {x : PV} (h : x.scalar = true) : x.cells = [x] := by
  cases x <;> first | rfl | cases h

def pint : PV → Option Int
  | .int _ n => some n
  | _ => none

/-- How long a slice or a string is. -/
def plen (S : St) : PV → Option Nat
  | .islice _ es => some es.length
  | .slice k len =>
    match S.find k with
    | some (.row _ es) => if es.length = len then some len else none
    | _ => none
  | .part k _ n lo hi =>
    match S.find k with
    | some (.row _ es) => if es.length = n then some (hi - lo) else none
    | _ => none
  | .val (.slice _ n _) => some n
  | _ => none

/-- A window of a row, of elements of so many cells: the key, from, to, the row. -/
def pwin (S : St) (esz : Nat) : PV → Option (Key × Nat × Nat × List PV)
  | .slice k len =>
    match S.find k with
    | some (.row sz es) => if es.length = len ∧ sz = esz then some (k, 0, len, es) else none
    | _ => none
  | .part k e n lo hi =>
    match S.find k with
    | some (.row sz es) => if es.length = n ∧ sz = esz ∧ e = esz then some (k, lo, hi, es) else none
    | _ => none
  | _ => none

/-- Is an operand the slice nil? -/
def isNilS : Operand → Option Unit
  | .const (.slice none 0 0) => some ()
  | _ => none

/-- Is a slice nil? -/
def pnil : PV → Option Bool
  | .islice _ (_ :: _) => some false
  | .val (.slice a _ _) => some a.isNone
  | _ => none

def plow : Option PV → Option Nat
  | none => some 0
  | some (.int _ n) => if 0 ≤ n then some n.toNat else none
  | some _ => none

def phigh (len : Nat) : Option PV → Option Nat
  | none => some len
  | some (.int _ n) => if 0 ≤ n then some n.toNat else none
  | some _ => none

/-- Operations that only read. -/
def pval (P : Program) (S : St) (env : Env) : Op → Option PV
  | .move x | .assign x => some (ev env x)
  | .pick c a b => match ev env c with
    | .bool t => some (if t then ev env a else ev env b)
    | _ => none
  | .build t parts => match tyOf P t with
    | some ty => match ty.zero, ty.kind with
      | some (.agg z), .struct fs => (pfill (fun i => (fs[i]?).map fun f => (f.1, f.2.1)) z (parts.toList.map fun p => (p.1, ev env p.2))).map .agg
      | some (.agg z), .array _ esz _ => (pfill (fun i => some (i * esz, esz)) z (parts.toList.map fun p => (p.1, ev env p.2))).map .agg
      | _, _ => none
    | none => none
  | .load t x => match tyOf P t, pelem S (ev env x) with
    | some ty, some (e, off) => pload ty e off
    | _, _ => none
  | .nilCheck x => match ev env x with
    | .ptr k n i o => some (.ptr k n i o)
    | .iptr es i o => some (.iptr es i o)
    | .func (.func f) a b => some (.func (.func f) a b)
    | _ => none
  | .binOp op t x y _ =>
    match isNilS y with
    | some _ => (match tyOf P t, pnil (ev env x), op with
      | some ty, some b, .eql => (match ty.kind with
        | .slice _ _ _ => some (.bool b)
        | _ => none)
      | some ty, some b, .neq => (match ty.kind with
        | .slice _ _ _ => some (.bool (!b))
        | _ => none)
      | _, _, _ => none)
    | none => pbin P op t (ev env x) (ev env y)
  | .unOp op _ x => match op, ev env x with
    | .not, .bool b => some (.bool !b)
    | .neg, .int k n => some (.int k (k.wrap (0 - n)))
    | _, _ => none
  | .convert s d x => match tyOf P s, tyOf P d, ev env x with
    | some _, some ty, .int _ n => match ty.kind with
      | .int k => some (.int k (k.wrap n))
      | _ => none
    | _, _, _ => none
  | .makeFunc fn first captured => some (.func fn (first.toList.map (ev env)) (captured.toList.map (ev env)))
  | .fieldAddr s x f => match tyOf P s with
    | some ty => match ty.kind with
      | .struct fs => match fs[f]?, ev env x with
        | some (o, sz, _), .ptr k n i off => if sz = 0 then none else some (.ptr k n i (off + o))
        | some (o, sz, _), .iptr es i off => if sz = 0 then none else some (.iptr es i (off + o))
        | _, _ => none
      | _ => none
    | none => none
  | .field t x f => match tyOf P t, ev env x with
    | some ty, .agg cs => match ty.kind with
      | .struct fs => match fs[f]? with
        | some (o, sz, ag) => ppart ag sz cs o
        | none => none
      | _ => none
    | _, _ => none
  | .indexAddr t x i => match tyOf P t, pint (ev env i) with
    | some ty, some n => match ty.kind, ev env x with
      | .slice esz _ _, .islice _ es => if 0 ≤ n ∧ n < es.length then (match es[n.toNat]? with
        | some e => if e.cells.length = esz then some (.iptr es n.toNat 0) else none
        | none => none) else none
      | .slice esz _ _, .slice k len => match S.find k with
        | some (.row sz es) => if es.length = len ∧ sz = esz ∧ 0 ≤ n ∧ n < len then some (.ptr k len n.toNat 0) else none
        | _ => none
      | .array m esz _, .ptr k l j off => if 0 ≤ n ∧ n < m then some (.ptr k l j (off + n.toNat * esz)) else none
      | .array m esz _, .iptr es j off => if 0 ≤ n ∧ n < m then some (.iptr es j (off + n.toNat * esz)) else none
      | _, _ => none
    | _, _ => none
  | .index t x i => match tyOf P t, pint (ev env i), ev env x with
    | some ty, some n, .agg cs => match ty.kind with
      | .array m esz ag => if 0 ≤ n ∧ n < m then ppart ag esz cs (n.toNat * esz) else none
      | _ => none
    | _, _, _ => none
  | .extract x i => match ev env x with
    | .tup vs => vs[i]?
    | _ => none
  | .slice t x lo hi mx => match tyOf P t, ev env x with
    | some ty, .islice c es => match ty.kind with
      | .slice esz _ _ => match plow (lo.map (ev env)), phigh es.length (hi.map (ev env)), mx.map (ev env) with
        | some l, some h, none => if l ≤ h ∧ h ≤ es.length ∧ (∀ e ∈ es, e.cells.length = esz) then some (.islice (c.map (· - l)) ((es.take h).drop l)) else none
        | some l, some h, some (.int _ m) => if hi.isSome = true ∧ l ≤ h ∧ (h : Int) ≤ m ∧ m ≤ es.length ∧ (∀ e ∈ es, e.cells.length = esz) then some (.islice (some (m.toNat - l)) ((es.take h).drop l)) else none
        | _, _, _ => none
      | _ => none
    | some ty, .iptr es i off => match ty.kind, lo, hi, mx with
      | .array n esz ag, none, none, none => match es[i]? with
        | some e => if ag = false ∧ esz = 1 ∧ 0 < n ∧ off + n ≤ e.cells.length ∧ (∀ x ∈ (e.cells.drop off).take n, x.scalar = true) then some (.islice (some n) ((e.cells.drop off).take n)) else none
        | none => none
      | _, _, _, _ => none
    | some ty, p => match ty.kind with
      | .slice esz _ _ => match pwin S esz p with
        | some (k, l0, h0, es) => match plow (lo.map (ev env)), phigh (h0 - l0) (hi.map (ev env)), mx.map (ev env) with
          | some l, some h, none => if l ≤ h ∧ l0 + h ≤ es.length then some (.part k esz es.length (l0 + l) (l0 + h)) else none
          | some l, some h, some (.int _ m) => if hi.isSome = true ∧ l ≤ h ∧ (h : Int) ≤ m ∧ (l0 : Int) + m ≤ es.length then some .any else none
          | _, _, _ => none
        | none => none
      | _ => none
    | none, _ => none
  | .call c => match c.callee with
    | .builtin .len => match c.args.toList, c.argTypes.toList with
      | [x], t :: _ => match tyOf P t with
        | some ty => match ty.kind with
          | .slice .. => (plen S (ev env x)).map fun (n : Nat) => PV.int .i64 (n : Int)
          | .str => match ev env x with
            | .str s => some (.int .i64 s.size)
            | _ => none
          | .array n _ _ => some (.int .i64 n)
          | _ => none
        | none => none
      | _, _ => none
    | .builtin .min => match c.args.toList.map (ev env) with
      | [.int k a, .int k' b] => if k = k' then some (.int k (if b < a then b else a)) else none
      | _ => none
    | .builtin .max => match c.args.toList.map (ev env) with
      | [.int k a, .int k' b] => if k = k' then some (.int k (if a < b then b else a)) else none
      | _ => none
    | _ => none
  | _ => none

section
variable {P : Program} {w : World} {K : KMap} {U : Key → Prop} {F : Nat → Prop} {S : St}

theorem find_of_K (hs : Sim w K U F S) {k : Key} {ob : Ob} (h : S.find k = some ob) : ∃ ro, K k = some (ro, ob) := by
  have := hs.key k
  rw [h] at this
  cases hk : K k with
  | none => rw [hk] at this; cases this
  | some x =>
    obtain ⟨ro, o⟩ := x
    rw [hk] at this
    simp only [Option.map_some, Option.some.injEq] at this
    exact ⟨ro, by rw [this]⟩

/-- The element that an address leads to lies in a row. -/
theorem pelem_row (hs : Sim w K U F S) {p : PV} {v : Value} {e : PV} {off : Nat} (h : pelem S p = some (e, off)) (hr : Rel w K U F p v) :
    ∃ r o sz i es, v = .pointer (some ⟨r, o + i * sz + off, none⟩) ∧ RowAt w K U F r o sz es ∧ es[i]? = some e := by
  unfold pelem at h
  split at h
  · rename_i es i off'
    cases hr with
    | iptr _ _ _ r o sz c t fr hF hK hb hsz hin hc =>
    cases he : es[i]? with
    | none => rw [he] at h; cases h
    | some e' =>
      rw [he] at h
      simp only [Option.map_some, Option.some.injEq, Prod.mk.injEq] at h
      obtain ⟨rfl, rfl⟩ := h
      exact ⟨r, o, sz, i, es, rfl, ⟨c, t, fr, hb, hsz, hin, hc⟩, he⟩
  · rename_i k n i off'
    cases hr with
    | ptr _ _ _ _ a hu hsp h0 hp =>
    split at h
    · rename_i sz es hf
      split at h
      · rename_i hlen
        obtain ⟨ro, hk⟩ := find_of_K hs hf
        cases ro with
        | none => exact absurd hk (h0 _ _)
        | some r =>
          obtain ⟨_, h2⟩ := hp r sz es hk
          obtain ⟨h3, c, t, h4, h5, h6⟩ := hs.row k r sz es hk
          cases he : es[i]? with
          | none => rw [he] at h; cases h
          | some e' =>
            rw [he] at h
            simp only [Option.map_some, Option.some.injEq, Prod.mk.injEq] at h
            obtain ⟨rfl, rfl⟩ := h
            refine ⟨r, 0, sz, i, es, by rw [h2 hlen, Nat.zero_add], ⟨c, t, (0, 0), h4, h3, by omega, fun j m hj hm => ?_⟩, he⟩
            rw [Nat.zero_add]
            exact h6 j m hj hm
      · cases h
    · cases h
  · cases h

theorem plen_len (hs : Sim w K U F S) {p : PV} {v : Value} {n : Nat} (h : plen S p = some n) (hr : Rel w K U F p v) : ∃ a c, v = .slice a n c := by
  unfold plen at h
  split at h
  · simp only [Option.some.injEq] at h
    subst h
    cases hr with
    | inil cap a c hc ha => exact ⟨_, _, rfl⟩
    | islice => exact ⟨_, _, rfl⟩
  · rename_i k len
    split at h
    · rename_i sz es hf
      split at h
      · rename_i hl
        simp only [Option.some.injEq] at h
        subst h
        cases hr with
        | slice _ _ a l cp hu h0 h1 =>
        obtain ⟨ro, hk⟩ := find_of_K hs hf
        cases ro with
        | none =>
          obtain ⟨_, h3⟩ := h0 sz es hk
          obtain ⟨rfl, _⟩ := h3 hl
          have := hs.row0 k sz es hk
          subst this
          simp at hl
          subst hl
          exact ⟨_, _, rfl⟩
        | some r =>
          obtain ⟨_, h3⟩ := h1 r sz es hk
          obtain ⟨_, rfl, _⟩ := h3 hl
          exact ⟨_, _, rfl⟩
      · cases h
    · cases h
  · rename_i k e n' lo hi
    split at h
    · rename_i sz es hf
      split at h
      · rename_i hl
        simp only [Option.some.injEq] at h
        subst h
        cases hr with
        | part _ _ _ _ _ a l cp hu hlh hhn h0 h1 =>
        obtain ⟨ro, hk⟩ := find_of_K hs hf
        cases ro with
        | none =>
          obtain ⟨_, h3⟩ := h0 sz es hk
          obtain ⟨rfl, _⟩ := h3 hl
          have := hs.row0 k sz es hk
          subst this
          simp at hl
          have : hi - lo = 0 := by omega
          rw [this]
          exact ⟨_, _, rfl⟩
        | some r =>
          obtain ⟨_, h3⟩ := h1 r sz es hk
          obtain ⟨rfl, _⟩ := h3 hl
          exact ⟨_, _, rfl⟩
      · cases h
    · cases h
  · rename_i a n' c
    simp only [Option.some.injEq] at h
    subst h
    cases hr
    exact ⟨_, _, rfl⟩
  · cases h

theorem pwin_val (hs : Sim w K U F S) {esz : Nat} {k : Key} {lo hi : Nat} {es : List PV} {p : PV} {v : Value} (h : pwin S esz p = some (k, lo, hi, es)) (hr : Rel w K U F p v) :
    S.find k = some (.row esz es) ∧ lo ≤ hi ∧ hi ≤ es.length ∧ U k ∧ ∃ ro a cp, K k = some (ro, .row esz es) ∧ v = .slice a (hi - lo) cp ∧ (ro = none → cp = 0 ∧ es.length = 0) ∧
      ∀ r, ro = some r → es.length - lo ≤ cp ∧ (0 < cp → a = some ⟨r, lo * esz, none⟩) ∧ ∀ c e fr, w.heap[r]? = some (.cells c e fr) → (lo + cp) * esz ≤ c.size := by
  unfold pwin at h
  split at h
  · rename_i k' len
    split at h
    · rename_i sz es' hf
      split at h
      · rename_i hl
        obtain ⟨rfl, rfl⟩ := hl
        simp only [Option.some.injEq, Prod.mk.injEq] at h
        obtain ⟨rfl, rfl, rfl, rfl⟩ := h
        cases hr with
        | slice _ _ a l cp hu h0 h1 =>
        obtain ⟨ro, hk⟩ := find_of_K hs hf
        refine ⟨hf, Nat.zero_le _, Nat.le_refl _, hu, ro, a, cp, hk, ?_, fun e => ?_, fun r e => ?_⟩
        · cases ro with
          | none =>
            obtain ⟨_, h3⟩ := h0 sz es' hk
            obtain ⟨rfl, _⟩ := h3 rfl
            have := hs.row0 k' sz es' hk
            subst this
            rfl
          | some r =>
            obtain ⟨_, h3⟩ := h1 r sz es' hk
            obtain ⟨_, rfl, _⟩ := h3 rfl
            rfl
        · subst e
          obtain ⟨_, h3⟩ := h0 sz es' hk
          have := hs.row0 k' sz es' hk
          subst this
          exact ⟨(h3 rfl).2, rfl⟩
        · subst e
          obtain ⟨_, h3⟩ := h1 r sz es' hk
          obtain ⟨h4, h5, h6, h7⟩ := h3 rfl
          exact ⟨by omega, fun _ => by rw [h4, Nat.zero_mul], fun c e fr hc => by rw [Nat.zero_add]; exact h7 c e fr hc⟩
      · cases h
    · cases h
  · rename_i k' e' n' lo' hi'
    split at h
    · rename_i sz es' hf
      split at h
      · rename_i hl
        obtain ⟨rfl, rfl, rfl⟩ := hl
        simp only [Option.some.injEq, Prod.mk.injEq] at h
        obtain ⟨rfl, rfl, rfl, rfl⟩ := h
        cases hr with
        | part _ _ _ _ _ a l cp hu hlh hhn h0 h1 =>
        obtain ⟨ro, hk⟩ := find_of_K hs hf
        refine ⟨hf, hlh, hhn, hu, ro, a, cp, hk, ?_, fun e => ?_, fun r e => ?_⟩
        · cases ro with
          | none =>
            obtain ⟨_, h3⟩ := h0 _ es' hk
            obtain ⟨rfl, _⟩ := h3 rfl
            have := hs.row0 k' _ es' hk
            subst this
            simp only [List.length_nil] at hhn
            have : hi' - lo' = 0 := by omega
            rw [this]
          | some r =>
            obtain ⟨_, h3⟩ := h1 r _ es' hk
            obtain ⟨rfl, _⟩ := h3 rfl
            rfl
        · subst e
          obtain ⟨_, h3⟩ := h0 _ es' hk
          have := hs.row0 k' _ es' hk
          subst this
          exact ⟨(h3 rfl).2, rfl⟩
        · subst e
          obtain ⟨_, h3⟩ := h1 r _ es' hk
          obtain ⟨h4, h5, h6, h7⟩ := h3 rfl
          exact ⟨h5, h6, h7⟩
      · cases h
    · cases h
  · cases h
end
end Go.Pv

set_option linter.unusedVariables false
namespace Go.Pv
open Go

section
variable {P : Program} {w : World} {K : KMap} {U : Key → Prop} {F : Nat → Prop} {S : St}

theorem tyOf_info {t : TypeId} {ty : TyI} (h : tyOf P t = some ty) : P.cellsOf t = ty.sz ∧ aggOf P t = ty.agg ∧ ∃ i d, P.info? t = some i ∧ P.underlying t = some d ∧ ty.kind = kindOf P d ∧ ty.zero = i.zero.map toPV ∧ i.size = ty.sz ∧ i.bytes = ty.bytes := by
  obtain ⟨i, d, h1, h2, rfl⟩ := tyOf_some h
  exact ⟨by simp [Program.cellsOf, h1], by cases d <;> simp [aggOf, h2], i, d, h1, h2, rfl, rfl, rfl, rfl⟩

theorem struct_of {t : TypeId} {ty : TyI} {fs : List (Nat × Nat × Bool)} (h : tyOf P t = some ty) (hk : ty.kind = .struct fs) : ∃ gs, P.underlying t = some (.struct gs) ∧ (fs = gs.toList.map fun f => (f.offset, P.cellsOf f.type, aggOf P f.type)) ∧ ∀ f ∈ gs.toList, ∃ d, P.underlying f.type = some d := by
  obtain ⟨_, _, i, d, h1, h2, h3, _⟩ := tyOf_info h
  rw [hk] at h3
  cases d <;> simp only [kindOf, reduceCtorEq] at h3
  all_goals (try split at h3) <;> simp only [reduceCtorEq, TK.struct.injEq] at h3
  rename_i gs hall
  refine ⟨_, h2, h3, fun f hf => ?_⟩
  have := List.all_eq_true.1 hall f hf
  exact Option.isSome_iff_exists.1 this

theorem array_of {t : TypeId} {ty : TyI} {n esz : Nat} {ag : Bool} (h : tyOf P t = some ty) (hk : ty.kind = .array n esz ag) : ∃ e, P.underlying t = some (.array n e) ∧ esz = P.cellsOf e ∧ ag = aggOf P e ∧ ∃ d, P.underlying e = some d := by
  obtain ⟨_, _, i, d, h1, h2, h3, _⟩ := tyOf_info h
  rw [hk] at h3
  cases d <;> simp only [kindOf, reduceCtorEq] at h3
  all_goals (try split at h3) <;> simp only [reduceCtorEq, TK.array.injEq] at h3
  rename_i hs
  obtain ⟨rfl, rfl, rfl⟩ := h3
  exact ⟨_, h2, rfl, rfl, Option.isSome_iff_exists.1 hs⟩

theorem slice_of {t : TypeId} {ty : TyI} {esz eb e : Nat} (h : tyOf P t = some ty) (hk : ty.kind = .slice esz eb e) : P.underlying t = some (.slice e) ∧ esz = P.cellsOf e ∧ eb = P.bytesOf e ∧ ∃ d, P.underlying e = some d := by
  obtain ⟨_, _, i, d, h1, h2, h3, _⟩ := tyOf_info h
  rw [hk] at h3
  cases d <;> simp only [kindOf, reduceCtorEq] at h3
  all_goals (try split at h3) <;> simp only [reduceCtorEq, TK.slice.injEq] at h3
  rename_i hs
  obtain ⟨rfl, rfl, rfl⟩ := h3
  exact ⟨h2, rfl, rfl, Option.isSome_iff_exists.1 hs⟩

theorem int_of {t : TypeId} {ty : TyI} {k : IntKind} (h : tyOf P t = some ty) (hk : ty.kind = .int k) : P.underlying t = some (.int k) := by
  obtain ⟨_, _, i, d, h1, h2, h3, _⟩ := tyOf_info h
  rw [hk] at h3
  cases d <;> simp only [kindOf, reduceCtorEq, TK.int.injEq] at h3
  all_goals (try split at h3) <;> (try simp only [reduceCtorEq] at h3)
  subst h3
  exact h2

theorem under_of {t : TypeId} {ty : TyI} (h : tyOf P t = some ty) : ∃ d, P.underlying t = some d ∧ ty.kind = kindOf P d := by
  obtain ⟨_, _, i, d, h1, h2, h3, _⟩ := tyOf_info h
  exact ⟨d, h2, h3⟩

theorem run_under {t : TypeId} {d : TypeDesc} (h : P.underlying t = some d) (w : World) : (underlying t).run P w = .ok d w := run_underlying h w

/-- Parts of a value's cells. -/
theorem ppart_rel {cs : List PV} {a : Array Value} {v : PV} {ag : Bool} {sz off : Nat} (h : ppart ag sz cs off = some v) (hr : Rel w K U F (.agg cs) (.agg a)) {t : TypeId} (hsz : P.cellsOf t = sz) (hag : aggOf P t = ag) (hd : ag = true ∨ 0 < sz ∨ True) (hu : (∃ d, P.underlying t = some d)) :
    ∃ u, (part t a off).run P w = .ok u w ∧ Rel w K U F v u := by
  obtain ⟨d, hd'⟩ := hu
  obtain ⟨i, hi⟩ := info_of_underlying hd'
  rw [run_part hd' hi, hag]
  cases hr with
  | agg _ _ hl hc =>
  unfold ppart at h
  cases ag with
  | true =>
    simp only [if_true] at h ⊢
    split at h
    · rename_i hle
      simp only [Option.some.injEq] at h
      subst h
      refine ⟨_, rfl, .agg _ _ (by simp [hsz]; omega) fun j hj => ?_⟩
      simp only [List.length_take, List.length_drop] at hj
      have e1 : (a.extract off (off + P.cellsOf t)).getD j undef = a.getD (off + j) undef := by
        have : off + j < a.size := by omega
        simp [Array.getD_eq_getD_getElem?, Array.getElem?_extract, hsz]
        rw [if_pos (by omega)]
      rw [e1]
      simp only [List.getElem_take, List.getElem_drop]
      exact hc (off + j) (by omega)
    · cases h
  | false =>
    simp only [Bool.false_eq_true, if_false] at h ⊢
    obtain ⟨hlt, rfl⟩ := List.getElem?_eq_some_iff.1 h
    have : off < a.size := by omega
    rw [Array.getElem?_eq_getElem this]
    refine ⟨_, rfl, ?_⟩
    have := hc off hlt
    simpa [Array.getD, ‹off < a.size›] using this

theorem rel_cells {p : PV} {v : Value} (h : Rel w K U F p v) (hk : p.known = true) : p.cells.length = v.cells.size ∧ ∀ m, (hm : m < p.cells.length) → Rel w K U F p.cells[m] (v.cells.getD m undef) := by
  have one : ∀ (p : PV) (v : Value), Rel w K U F p v → p.cells = [p] → v.cells = #[v] → p.cells.length = v.cells.size ∧ ∀ m, (hm : m < p.cells.length) → Rel w K U F p.cells[m] (v.cells.getD m undef) := by
    intro p v h e1 e2
    rw [e2]
    refine ⟨by rw [e1]; rfl, fun m hm => ?_⟩
    have hm0 : m = 0 := by rw [e1] at hm; simp at hm; exact hm
    subst hm0
    simp only [e1]
    exact h
  cases h with
  | any => simp [PV.known] at hk
  | agg cells a ha hc => exact ⟨ha, hc⟩
  | bool b => exact one _ _ (.bool b) rfl rfl
  | int k n => exact one _ _ (.int k n) rfl rfl
  | str s => exact one _ _ (.str s) rfl rfl
  | nilPtr => exact one _ _ .nilPtr rfl rfl
  | ptr k n i off a hu hs h0 h => exact one _ _ (.ptr k n i off a hu hs h0 h) rfl rfl
  | iptr elems i off r o sz c e fr hF hK hb hsz hin hc => exact one _ _ (.iptr elems i off r o sz c e fr hF hK hb hsz hin hc) rfl rfl
  | inil cap a c hc ha => exact one _ _ (.inil cap a c hc ha) rfl rfl
  | islice cap elems r o sz cp c e fr hne hcap hle hF hK hb hsz hin hc => exact one _ _ (.islice cap elems r o sz cp c e fr hne hcap hle hF hK hb hsz hin hc) rfl rfl
  | slice k len a l cp hu h0 h => exact one _ _ (.slice k len a l cp hu h0 h) rfl rfl
  | nilMap => exact one _ _ .nilMap rfl rfl
  | map k m hu h => exact one _ _ (.map k m hu h) rfl rfl
  | nilFunc => exact one _ _ .nilFunc rfl rfl
  | func fn first captured a b ha hb h1 h2 => exact one _ _ (.func fn first captured a b ha hb h1 h2) rfl rfl
  | tup vs a ha h => exact one _ _ (.tup vs a ha h) rfl rfl
  | val v => simp [PV.known] at hk
  | part k esz n lo hi a l cp hu hlh hhn h0 h => exact one _ _ (.part k esz n lo hi a l cp hu hlh hhn h0 h) rfl rfl

theorem fold_set (off : Nat) : ∀ (l : List Value) (j0 : Nat) (cs : Array Value), off + j0 + l.length ≤ cs.size →
    ((l.zipIdx j0).foldl (fun cs (x : Value × Nat) => cs.setIfInBounds (off + x.2) x.1) cs).size = cs.size ∧
    ∀ m, ((l.zipIdx j0).foldl (fun cs (x : Value × Nat) => cs.setIfInBounds (off + x.2) x.1) cs).getD m undef = if off + j0 ≤ m ∧ m < off + j0 + l.length then l.getD (m - (off + j0)) undef else cs.getD m undef
  | [], j0, cs, _ => ⟨rfl, fun m => by
      have : ¬ (off + j0 ≤ m ∧ m < off + j0 + ([] : List Value).length) := by simp only [List.length_nil]; omega
      rw [if_neg this]; rfl⟩
  | v :: l, j0, cs, h => by
    simp only [List.length_cons] at h
    obtain ⟨h1, h2⟩ := fold_set off l (j0 + 1) (cs.setIfInBounds (off + j0) v) (by simp; omega)
    simp only [List.zipIdx_cons, List.foldl_cons]
    refine ⟨by rw [h1]; simp, fun m => ?_⟩
    rw [h2 m]
    simp only [List.length_cons]
    by_cases e : m = off + j0
    · subst e
      rw [if_neg (by omega), if_pos (by omega)]
      have hlt : off + j0 < cs.size := by omega
      simp [Array.getD_eq_getD_getElem?, hlt]
    · by_cases e2 : off + j0 ≤ m ∧ m < off + j0 + (l.length + 1)
      · rw [if_pos (by omega), if_pos e2]
        have : m - (off + j0) = (m - (off + (j0 + 1))) + 1 := by omega
        rw [this]
        simp
      · rw [if_neg (by omega), if_neg e2]
        simp only [Array.getD_eq_getD_getElem?, Array.getElem?_setIfInBounds]
        rw [if_neg (by omega)]

theorem fill_rel (place : Nat → Option (Nat × Nat)) : ∀ (parts : List (Nat × PV)) (vparts : List (Nat × Value)) (cells : List PV) (vcs : Array Value) (out : List PV),
    pfill place cells parts = some out → parts.length = vparts.length →
    (∀ i, (hi : i < parts.length) → (hv : i < vparts.length) → parts[i].1 = vparts[i].1 ∧ Rel w K U F parts[i].2 vparts[i].2) →
    Rel w K U F (.agg cells) (.agg vcs) → ∃ vout, Instr.fill place vcs vparts = some vout ∧ Rel w K U F (.agg out) (.agg vout)
  | [], [], cells, vcs, out, h, _, _, hr => by
    simp only [pfill, Option.some.injEq] at h
    subst h
    exact ⟨vcs, rfl, hr⟩
  | [], _ :: _, _, _, _, _, hl, _, _ => by simp at hl
  | _ :: _, [], _, _, _, _, hl, _, _ => by simp at hl
  | (i, p) :: parts, (i', v) :: vparts, cells, vcs, out, h, hl, hp, hr => by
    have h0 := hp 0 (by simp) (by simp)
    simp only [List.getElem_cons_zero] at h0
    obtain ⟨rfl, h1⟩ := h0
    simp only [pfill] at h
    cases hpl : place i with
    | none => rw [hpl] at h; cases h
    | some os =>
      obtain ⟨off, sz⟩ := os
      rw [hpl] at h
      simp only at h
      split at h
      · rename_i hc
        obtain ⟨hkn, hc⟩ := hc
        obtain ⟨h2, h3⟩ := rel_cells h1 hkn
        cases hr with
        | agg _ _ hlen hcell =>
        have hcond : ¬ (v.cells.size ≠ sz ∨ off + v.cells.size > vcs.size) := by omega
        obtain ⟨f1, f2⟩ := fold_set off v.cells.toList 0 vcs (by simp; omega)
        have hfold : v.cells.zipIdx.foldl (fun cs (x : Value × Nat) => cs.setIfInBounds (off + x.2) x.1) vcs = (v.cells.toList.zipIdx 0).foldl (fun cs (x : Value × Nat) => cs.setIfInBounds (off + x.2) x.1) vcs := by
          rw [← Array.foldl_toList, Array.toList_zipIdx]
        rw [← hfold] at f1 f2
        have hrel : Rel w K U F (.agg (cells.take off ++ (p.cells ++ cells.drop (off + p.cells.length)))) (.agg (v.cells.zipIdx.foldl (fun cs (x : Value × Nat) => cs.setIfInBounds (off + x.2) x.1) vcs)) := by
          refine .agg _ _ (by rw [f1]; simp; omega) fun m hm => ?_
          rw [f2 m]
          simp only [Nat.add_zero, Array.length_toList]
          by_cases e : off ≤ m ∧ m < off + v.cells.size
          · rw [if_pos e, List.getElem_append_right (by simp; omega)]
            have := h3 (m - off) (by omega)
            simp only [List.length_take, Nat.min_eq_left (show off ≤ cells.length by omega)]
            rw [List.getElem_append_left (by omega)]
            simpa [Array.getD_eq_getD_getElem?] using this
          · rw [if_neg e]
            by_cases e2 : m < off
            · rw [List.getElem_append_left (by simp; omega)]
              simp only [List.getElem_take]
              exact hcell m (by omega)
            · rw [List.getElem_append_right (by simp; omega), List.getElem_append_right (by simp; omega)]
              simp only [List.length_take, Nat.min_eq_left (show off ≤ cells.length by omega), List.getElem_drop]
              have e3 : off + p.cells.length + (m - off - p.cells.length) = m := by omega
              have hm2 : m < cells.length := by
                simp only [List.length_append, List.length_take, List.length_drop] at hm
                omega
              have := hcell m hm2
              simp only [e3]
              exact this
        have ih := fill_rel place parts vparts _ _ out h (by simpa using hl) (fun j hj hv => hp (j + 1) (Nat.succ_lt_succ hj) (Nat.succ_lt_succ hv)) hrel
        obtain ⟨vout, g1, g2⟩ := ih
        refine ⟨vout, ?_, g2⟩
        simp only [Instr.fill, hpl]
        have hb : (decide (v.cells.size ≠ sz) || decide (off + v.cells.size > vcs.size)) = false := by simp; omega
        rw [hb]
        simpa using g1
      · cases h
end
end Go.Pv

set_option linter.unusedVariables false
set_option linter.unusedSimpArgs false
namespace Go.Pv
open Go

section
variable {P : Program} {w : World} {K : KMap} {U : Key → Prop} {F : Nat → Prop} {S : St}

theorem sPV_known_len : ∀ (v : Value), (sPV v).cells.length = 1 := by
  intro v; unfold sPV; split <;> rfl

theorem toPV_agg {z : Value} {l : List PV} (h : toPV z = .agg l) : ∃ a, z = .agg a ∧ l = a.toList.map sPV := by
  cases z with
  | agg a => simp only [toPV, PV.agg.injEq] at h; exact ⟨a, rfl, h.symm⟩
  | tuple a => simp [toPV] at h
  | _ =>
    simp only [toPV, sPV] at h
    try split at h
    all_goals first | (cases h; done) | skip

theorem zero_of {t : TypeId} {ty : TyI} {z : PV} (h : tyOf P t = some ty) (hz : ty.zero = some z) (w : World) : ∃ v, (zeroValue t).run P w = .ok v w ∧ z = toPV v := by
  obtain ⟨_, _, i, d, h1, h2, _, h4, _⟩ := tyOf_info h
  rw [h4] at hz
  cases hi : i.zero with
  | none => rw [hi] at hz; cases hz
  | some v =>
    rw [hi] at hz
    simp only [Option.map_some, Option.some.injEq] at hz
    exact ⟨v, by simp [zeroValue, run_typeInfo_of h1, hi], hz.symm⟩

theorem run_places (fields : List Field) (hi : ∀ f ∈ fields, ∃ i, P.info? f.type = some i) (w : World) : ∀ acc : Array (Nat × Nat),
    (fields.foldlM (m := Sem) (fun acc f => do let s ← sizeOf f.type; pure (acc.push (f.offset, s))) acc).run P w = .ok (acc ++ (fields.map fun f => (f.offset, P.cellsOf f.type)).toArray) w := by
  induction fields with
  | nil => intro acc; simp
  | cons f fs ih =>
    intro acc
    obtain ⟨i, h⟩ := hi f (by simp)
    have hs : (sizeOf f.type).run P w = .ok (P.cellsOf f.type) w := by simp [sizeOf, run_typeInfo_of h, Program.cellsOf, h]
    simp only [List.foldlM_cons, Sem.run_bind, hs, Result.andThen_ok, Sem.run_pure]
    rw [ih (fun g hg => hi g (by simp [hg]))]
    simp

theorem run_build {t : TypeId} {env : Env} {a : Act} {parts : Array (Nat × Operand)} {v : PV} {S : St} (he : ERel w K U F env a.tmps) (h : pval P S env (.build t parts) = some v) :
    ∃ u, (Instr.build t (parts.map fun (i, x) => (i, a.eval x))).run P w = .ok u w ∧ Rel w K U F v u := by
  simp only [pval] at h
  split at h
  · rename_i ty hty
    have hparts : ∀ (place : Nat → Option (Nat × Nat)) (z : List PV) (za : Array Value) (out : List PV), z = za.toList.map sPV → pfill place z (parts.toList.map fun p => (p.1, ev env p.2)) = some out →
        ∃ vout, Instr.fill place za (parts.map fun (i, x) => (i, a.eval x)).toList = some vout ∧ Rel w K U F (.agg out) (.agg vout) := by
      intro place z za out hz hf
      refine fill_rel place _ _ z za out hf (by simp) (fun i hi hv => ?_) ?_
      · simp only [List.getElem_map, Array.toList_map]
        exact ⟨by simp, by simpa using rel_ev he _⟩
      · subst hz
        have := rel_toPV (w := w) (K := K) (U := U) (F := F) (.agg za)
        simpa [toPV] using this
    split at h
    · rename_i z fs hz hk
      obtain ⟨gs, hu, hfs, hall⟩ := struct_of hty hk
      obtain ⟨zv, hzv, hzz⟩ := zero_of hty hz w
      obtain ⟨za, rfl, hza⟩ := toPV_agg hzz.symm
      cases hf : pfill (fun i => (fs[i]?).map fun f => (f.1, f.2.1)) z (parts.toList.map fun p => (p.1, ev env p.2)) with
      | none => rw [hf] at h; cases h
      | some out =>
        rw [hf] at h
        simp only [Option.map_some, Option.some.injEq] at h
        subst h
        obtain ⟨vout, g1, g2⟩ := hparts _ z za out hza hf
        refine ⟨.agg vout, ?_, g2⟩
        have hpl : (gs.mapM (m := Sem) fun f => do pure (f.offset, ← sizeOf f.type)).run P w = .ok ((gs.toList.map fun f => (f.offset, P.cellsOf f.type)).toArray) w := by
          have := run_places (P := P) gs.toList (fun f hf => let ⟨d, hd⟩ := hall f hf; info_of_underlying hd) w #[]
          rw [Array.mapM_eq_foldlM, ← Array.foldlM_toList]
          simpa using this
        simp only [Instr.build, Sem.run_bind, hzv, Result.andThen_ok, run_underlying hu, hpl]
        have hplace : (fun i : Nat => (fs[i]?).map fun (f : Nat × Nat × Bool) => (f.1, f.2.1)) = ((gs.toList.map fun f => (f.offset, P.cellsOf f.type)).toArray[·]?) := by
          funext i
          rw [hfs]
          simp [Function.comp_def]
        rw [← hplace]
        have hc : (Value.agg za).cells = za := rfl
        rw [hc, g1]
        simp
    · rename_i z n esz ag hz hk
      obtain ⟨e, hu, he', hag, d, hd⟩ := array_of hty hk
      obtain ⟨zv, hzv, hzz⟩ := zero_of hty hz w
      obtain ⟨za, rfl, hza⟩ := toPV_agg hzz.symm
      obtain ⟨i, hi⟩ := info_of_underlying hd
      have hs : (sizeOf e).run P w = .ok esz w := by rw [he']; simp [sizeOf, run_typeInfo_of hi, Program.cellsOf, hi]
      cases hf : pfill (fun i => some (i * esz, esz)) z (parts.toList.map fun p => (p.1, ev env p.2)) with
      | none => rw [hf] at h; cases h
      | some out =>
        rw [hf] at h
        simp only [Option.map_some, Option.some.injEq] at h
        subst h
        obtain ⟨vout, g1, g2⟩ := hparts _ z za out hza hf
        refine ⟨.agg vout, ?_, g2⟩
        have hc : (Value.agg za).cells = za := rfl
        simp only [Instr.build, Sem.run_bind, hzv, Result.andThen_ok, run_underlying hu, hs, hc, g1]
        simp
    · cases h
  · cases h

theorem islice_rel {c : Option Nat} {es : List PV} {v : Value} (h : Rel w K U F (.islice c es) v) : ∃ a cp, v = .slice a es.length cp ∧ es.length ≤ cp ∧ (∀ c', c = some c' → cp = c') ∧ (a = none → cp = 0) ∧
    (es ≠ [] → ∃ r o sz, a = some ⟨r, o, none⟩ ∧ ¬ F r ∧ ¬ own K r ∧ RowAt w K U F r o sz es) := by
  cases h with
  | inil _ a c hc ha => exact ⟨a, c, rfl, Nat.zero_le _, hc, ha, fun h => absurd rfl h⟩
  | islice _ _ r o sz cp cs e fr hne hcap hle hF hK hb hsz hin hc => exact ⟨_, cp, rfl, hle, hcap, nofun, fun _ => ⟨r, o, sz, rfl, hF, hK, cs, e, fr, hb, hsz, hin, hc⟩⟩

/-- A window of a row. -/
theorem RowAt.window {r o sz : Nat} {es : List PV} (h : RowAt w K U F r o sz es) (l n : Nat) (hl : l ≤ es.length) : RowAt w K U F r (o + l * sz) sz ((es.take n).drop l) := by
  obtain ⟨c, e, fr, hb, hsz, hin, hc⟩ := h
  refine ⟨c, e, fr, hb, fun x hx => hsz x (List.mem_of_mem_take (List.mem_of_mem_drop hx)), ?_, fun j m hj hm => ?_⟩
  · have h1 : ((es.take n).drop l).length ≤ es.length - l := by simp; omega
    have h2 : ((es.take n).drop l).length * sz ≤ (es.length - l) * sz := Nat.mul_le_mul_right _ h1
    have h3 : (es.length - l) * sz + l * sz = es.length * sz := by rw [← Nat.add_mul]; congr 1; omega
    omega
  · have hj' : l + j < es.length := by simp at hj; omega
    have e1 : ((es.take n).drop l)[j] = es[l + j] := by simp
    have e2 : o + l * sz + j * sz + m = o + (l + j) * sz + m := by rw [Nat.add_mul]; omega
    have hm' : m < es[l + j].cells.length := by rw [← e1]; exact hm
    rw [e2]
    have := hc (l + j) m hj' hm'
    simp only [e1]
    exact this

theorem islice_mk {cap : Option Nat} {es : List PV} {a : Option Addr} {cp : Nat} (hcap : ∀ c', cap = some c' → cp = c') (hle : es.length ≤ cp) (ha : a = none → cp = 0)
    (h : es ≠ [] → ∃ r o sz, a = some ⟨r, o, none⟩ ∧ ¬ F r ∧ ¬ own K r ∧ RowAt w K U F r o sz es) : Rel w K U F (.islice cap es) (.slice a es.length cp) := by
  cases es with
  | nil => exact .inil cap a cp hcap ha
  | cons x es =>
    obtain ⟨r, o, sz, rfl, hF, hK, c, e, fr, hb, hsz, hin, hc⟩ := h (by simp)
    exact .islice cap _ r o sz cp c e fr (by simp) hcap hle hF hK hb hsz hin hc

theorem rel_pint {p : PV} {v : Value} {n : Int} (h : pint p = some n) (hr : Rel w K U F p v) : ∃ k, v = .int k n := by
  unfold pint at h
  split at h
  · simp only [Option.some.injEq] at h; subst h; exact ⟨_, rel_int hr⟩
  · cases h

theorem plow_val {env : Env} {a : Act} (he : ERel w K U F env a.tmps) {lo : Option Operand} {l : Nat} (h : plow (lo.map (ev env)) = some l) : (lo = none ∧ l = 0) ∨ ∃ o k n, lo = some o ∧ a.eval o = .int k n ∧ 0 ≤ n ∧ l = n.toNat := by
  cases lo with
  | none => simp only [Option.map_none, plow, Option.some.injEq] at h; exact .inl ⟨rfl, h.symm⟩
  | some o =>
    simp only [Option.map_some] at h
    unfold plow at h
    split at h
    · rename_i h0; cases h0
    · rename_i k n h0
      split at h
      · rename_i hn
        simp only [Option.some.injEq] at h h0
        have h1 := rel_ev he o
        rw [h0] at h1
        exact .inr ⟨o, k, n, rfl, rel_int h1, hn, h.symm⟩
      · cases h
    · cases h

theorem phigh_val {env : Env} {a : Act} (he : ERel w K U F env a.tmps) {len : Nat} {hi : Option Operand} {l : Nat} (h : phigh len (hi.map (ev env)) = some l) : (hi = none ∧ l = len) ∨ ∃ o k n, hi = some o ∧ a.eval o = .int k n ∧ 0 ≤ n ∧ l = n.toNat := by
  cases hi with
  | none => simp only [Option.map_none, phigh, Option.some.injEq] at h; exact .inl ⟨rfl, h.symm⟩
  | some o =>
    simp only [Option.map_some] at h
    unfold phigh at h
    split at h
    · rename_i h0; cases h0
    · rename_i k n h0
      split at h
      · rename_i hn
        simp only [Option.some.injEq] at h h0
        have h1 := rel_ev he o
        rw [h0] at h1
        exact .inr ⟨o, k, n, rfl, rel_int h1, hn, h.symm⟩
      · cases h
    · cases h

theorem run_sliceBounds_of {len cap l h m : Nat} {env : Env} {a : Act} (he : ERel w K U F env a.tmps) {lo hi mx : Option Operand} (hlo : plow (lo.map (ev env)) = some l) (hhi : phigh len (hi.map (ev env)) = some h) (hmx : (mx = none ∧ m = cap) ∨ ∃ o k n, mx = some o ∧ a.eval o = .int k n ∧ 0 ≤ n ∧ m = n.toNat ∧ hi ≠ none)
    (h1 : l ≤ h) (h2 : h ≤ m) (h3 : m ≤ cap) : (Instr.sliceBounds true len cap (lo.map a.eval) (hi.map a.eval) (mx.map a.eval)).run P w = .ok (l, h, m) w := by
  have hb : ∀ (k : IntKind) (n : Int) (y : Nat) (c : BoundsCode), 0 ≤ n → n.toNat ≤ y → (Instr.sliceBound (.int k n) y c).run P w = .ok n.toNat w := by
    intro k n y c hn hy
    have : n ≤ (y : Int) := by omega
    simp [Instr.sliceBound, asIntOf, hn, this]
  rcases plow_val he hlo with ⟨rfl, rfl⟩ | ⟨o1, k1, n1, rfl, e1, p1, rfl⟩ <;> rcases phigh_val he hhi with ⟨rfl, rfl⟩ | ⟨o2, k2, n2, rfl, e2, p2, rfl⟩ <;> rcases hmx with ⟨rfl, rfl⟩ | ⟨o3, k3, n3, rfl, e3, p3, rfl, q3⟩
  · simp [Instr.sliceBounds]
  · exact absurd rfl q3
  · simp only [Instr.sliceBounds, Option.map_some, Option.map_none, Sem.run_bind, Sem.run_pure, Result.andThen_ok, e2, hb _ _ _ _ p2 h2]
  · simp only [Instr.sliceBounds, Option.map_some, Option.map_none, Sem.run_bind, Sem.run_pure, Result.andThen_ok, e2, e3, hb _ _ _ _ p3 h3, hb _ _ _ _ p2 h2]
  · simp only [Instr.sliceBounds, Option.map_some, Option.map_none, Sem.run_bind, Sem.run_pure, Result.andThen_ok, e1, hb _ _ _ _ p1 h1]
  · exact absurd rfl q3
  · simp only [Instr.sliceBounds, Option.map_some, Option.map_none, Sem.run_bind, Sem.run_pure, Result.andThen_ok, e1, e2, hb _ _ _ _ p2 h2, hb _ _ _ _ p1 h1]
  · simp only [Instr.sliceBounds, Option.map_some, Option.map_none, Sem.run_bind, Sem.run_pure, Result.andThen_ok, e1, e2, e3, hb _ _ _ _ p3 h3, hb _ _ _ _ p2 h2, hb _ _ _ _ p1 h1]

theorem run_slice_op {t : TypeId} {env : Env} {a : Act} {x : Operand} {lo hi mx : Option Operand} {v : PV} (hs : Sim w K U F S) (he : ERel w K U F env a.tmps) (h : pval P S env (.slice t x lo hi mx) = some v) :
    ∃ u, (Instr.sliceAt t (a.eval x) (lo.map a.eval) (hi.map a.eval) (mx.map a.eval)).run P w = .ok u w ∧ Rel w K U F v u := by
  simp only [pval] at h
  split at h
  · rename_i ty c es hty hx
    split at h
    · rename_i esz eb et hk
      obtain ⟨hu, hesz, _, d, hd⟩ := slice_of hty hk
      obtain ⟨i, hi'⟩ := info_of_underlying hd
      have hs : (sizeOf et).run P w = .ok esz w := by rw [hesz]; simp [sizeOf, run_typeInfo_of hi', Program.cellsOf, hi']
      have hr := rel_ev he x
      rw [hx] at hr
      obtain ⟨ad, cp, hv, hle, hcap, ha, hrow⟩ := islice_rel hr
      have fin : ∀ l h' m, (Instr.sliceBounds true es.length cp (lo.map a.eval) (hi.map a.eval) (mx.map a.eval)).run P w = .ok (l, h', m) w → l ≤ h' → h' ≤ es.length → h' ≤ m → m ≤ cp → (∀ e ∈ es, e.cells.length = esz) → ∀ cap', (∀ c', cap' = some c' → m - l = c') →
          ∃ u, (Instr.sliceAt t (a.eval x) (lo.map a.eval) (hi.map a.eval) (mx.map a.eval)).run P w = .ok u w ∧ Rel w K U F (.islice cap' ((es.take h').drop l)) u := by
        intro l h' m hb h1 h2 h3 h4 h5 cap' h6
        have hlen : ((es.take h').drop l).length = h' - l := by simp; omega
        refine ⟨.slice (if m = l then ad else ad.map (·.add (l * esz))) (h' - l) (m - l), ?_, ?_⟩
        · rw [hv]
          simp only [Instr.sliceAt, Sem.run_bind, run_underlying hu, Result.andThen_ok, Instr.slice, hb, hs, Sem.run_pure]
        · rw [← hlen]
          refine islice_mk h6 (by omega) (fun e => ?_) (fun hne => ?_)
          · split at e
            · omega
            · cases ad with
              | none => have := ha rfl; omega
              | some b => cases e
          · have hpos : 0 < ((es.take h').drop l).length := List.length_pos_iff.2 hne
            have hes : es ≠ [] := by rintro rfl; simp at hpos
            obtain ⟨r, o, sz, rfl, hF, hK, hrw⟩ := hrow hes
            have hsz : sz = esz := by
              obtain ⟨_, _, _, _, hq, _⟩ := hrw
              cases es with
              | nil => exact absurd rfl hes
              | cons x0 _ => rw [← hq x0 (by simp), h5 x0 (by simp)]
            subst hsz
            refine ⟨r, o + l * sz, sz, ?_, hF, hK, hrw.window l h' (by omega)⟩
            rw [if_neg (by omega)]
            simp [Addr.add_lit]
      split at h
      · rename_i l h' hl hh hm
        split at h
        · rename_i hc
          obtain ⟨h1, h2, h3⟩ := hc
          simp only [Option.some.injEq] at h
          subst h
          have hmx : mx = none := by cases mx <;> simp_all
          subst hmx
          refine fin l h' cp (run_sliceBounds_of he hl hh (.inl ⟨rfl, rfl⟩) h1 (by omega) (Nat.le_refl _)) h1 h2 (by omega) (Nat.le_refl _) h3 _ fun c' hc' => ?_
          cases c with
          | none => cases hc'
          | some c0 => simp only [Option.map_some, Option.some.injEq] at hc'; rw [hcap c0 rfl]; exact hc'
        · cases h
      · rename_i l h' m k hl hh hm
        split at h
        · rename_i hc
          obtain ⟨hhi, h1, h2, h3, h4⟩ := hc
          simp only [Option.some.injEq] at h
          subst h
          cases mx with
          | none => cases hm
          | some o =>
            simp only [Option.map_some, Option.some.injEq] at hm
            have hr2 := rel_ev he o
            rw [hm] at hr2
            have h0 : 0 ≤ k := by omega
            have hhi : hi ≠ none := by cases hi <;> simp_all
            exact fin l h' k.toNat (run_sliceBounds_of he hl hh (.inr ⟨o, m, k, rfl, rel_int hr2, h0, rfl, hhi⟩) h1 (by omega) (by omega)) h1 (by omega) (by omega) (by omega) h4 _ (fun c' hc' => by simpa using hc')
        · cases h
      · cases h
    · cases h
  · rename_i ty es i off hty hx
    split at h
    · rename_i n esz ag hk
      split at h
      · rename_i e hei
        split at h
        · rename_i hc
          obtain ⟨_, rfl, h1, h2, h3⟩ := hc
          simp only [Option.some.injEq] at h
          subst h
          obtain ⟨et, hu, hesz, _, d, hd⟩ := array_of hty hk
          obtain ⟨inf, hi'⟩ := info_of_underlying hd
          have hs : (sizeOf et).run P w = .ok 1 w := by rw [hesz]; simp [sizeOf, run_typeInfo_of hi', Program.cellsOf, hi']
          have hr := rel_ev he x
          rw [hx] at hr
          obtain ⟨hi, rfl⟩ := List.getElem?_eq_some_iff.1 hei
          generalize a.eval x = v at hr
          cases hr with
          | iptr _ _ _ r o sz c t' fr hF hK hb hsz hin hcr =>
          have hes : es[i].cells.length = sz := hsz _ (List.getElem_mem hi)
          have hlen : ((es[i].cells.drop off).take n).length = n := by simp; omega
          refine ⟨.slice (some ⟨r, o + i * sz + off, none⟩) n n, ?_, ?_⟩
          · have hb2 : (Instr.sliceBounds false n n (none : Option Value) none none).run P w = .ok (0, n, n) w := by simp [Instr.sliceBounds]
            simp only [Option.map_none, Instr.sliceAt, Sem.run_bind, run_underlying hu, Result.andThen_ok, Instr.sureAddr, Sem.run_pure, hb2, hs]
            rw [if_neg (by omega)]
            simp [Addr.add_lit]
          · have hmul : (i + 1) * sz ≤ es.length * sz := Nat.mul_le_mul_right _ hi
            have hmul2 : (i + 1) * sz = i * sz + sz := by rw [Nat.add_mul, Nat.one_mul]
            have hmk : Rel w K U F (.islice (some n) ((es[i].cells.drop off).take n)) (.slice (some ⟨r, o + i * sz + off, none⟩) ((es[i].cells.drop off).take n).length n) := by
              refine islice_mk (fun c' hc' => by simpa using hc') (by omega) (fun e => by cases e) (fun hne => ?_)
              refine ⟨r, o + i * sz + off, 1, rfl, hF, hK, c, t', fr, hb, fun x hx' => by rw [PV.scalar_cells (h3 x hx')]; rfl, by rw [hlen]; omega, fun j m hj hm => ?_⟩
              have hj' : j < n := by rw [hlen] at hj; exact hj
              have hsc := PV.scalar_cells (h3 _ (List.getElem_mem hj))
              have hm0 : m = 0 := by rw [hsc] at hm; simpa using hm
              subst hm0
              have e1 : (((es[i].cells.drop off).take n)[j]).cells[0] = es[i].cells[off + j] := by
                have : ∀ (l : List PV) (y : PV) (h : 0 < l.length), l = [y] → l[0] = y := by rintro l y h rfl; rfl
                rw [this _ _ hm hsc]
                simp
              rw [e1, show o + i * sz + off + j * 1 + 0 = o + i * sz + (off + j) by omega]
              exact hcr i (off + j) hi (by omega)
            rw [hlen] at hmk
            exact hmk
        · cases h
      · cases h
    · cases h
  · rename_i ty hty hp1 hp2
    split at h
    · rename_i esz eb et hk
      obtain ⟨hu, hesz, _, d, hd⟩ := slice_of hty hk
      obtain ⟨i, hi'⟩ := info_of_underlying hd
      have hsze : (sizeOf et).run P w = .ok esz w := by rw [hesz]; simp [sizeOf, run_typeInfo_of hi', Program.cellsOf, hi']
      have hr := rel_ev he x
      split at h
      · rename_i k l0 h0 es hw
        obtain ⟨hf, hlh, hhn, hU, ro, ad, cp, hK, hv, hno, hso⟩ := pwin_val hs hw hr
        have hcp : h0 - l0 ≤ cp := by
          cases ro with
          | none => obtain ⟨_, h2⟩ := hno rfl; omega
          | some r => obtain ⟨h1, _⟩ := hso r rfl; omega
        split at h
        · rename_i l hh hl hhi hm
          split at h
          · rename_i hc
            obtain ⟨h1, h2⟩ := hc
            simp only [Option.some.injEq] at h
            subst h
            have hmx : mx = none := by cases mx <;> simp_all
            subst hmx
            have hhcp : hh ≤ cp := by
              cases ro with
              | none => obtain ⟨_, h2⟩ := hno rfl; omega
              | some r => obtain ⟨h1, _⟩ := hso r rfl; omega
            have hb := run_sliceBounds_of (P := P) (w := w) he hl hhi (.inl ⟨rfl, rfl⟩) h1 hhcp (Nat.le_refl cp)
            refine ⟨.slice (if cp = l then ad else ad.map (·.add (l * esz))) (hh - l) (cp - l), ?_, .part k esz es.length (l0 + l) (l0 + hh) _ _ _ hU (by omega) h2 (fun sz' es' hk' => ?_) (fun r sz' es' hk' => ?_)⟩
            · rw [hv]
              simp only [Instr.sliceAt, Sem.run_bind, run_underlying hu, Result.andThen_ok, Instr.slice, hb, hsze, Sem.run_pure]
            · rw [hK] at hk'
              cases hk'
              obtain ⟨e1, e2⟩ := hno rfl
              exact ⟨Nat.le_refl _, fun _ => ⟨by omega, by omega⟩⟩
            · rw [hK] at hk'
              cases hk'
              obtain ⟨e1, e2, e3⟩ := hso r rfl
              refine ⟨Nat.le_refl _, fun _ => ⟨by omega, by omega, fun hpos => ?_, fun c e fr hc => ?_⟩⟩
              · rw [if_neg (by omega), e2 (by omega)]
                simp [Addr.add_lit, Nat.add_mul]
              · have := e3 c e fr hc
                have e4 : l0 + l + (cp - l) = l0 + cp := by omega
                rw [e4]
                exact this
          · cases h
        · rename_i l hh kk m hl hhi hm
          split at h
          · rename_i hc
            obtain ⟨hhi2, h1, h2, h3⟩ := hc
            simp only [Option.some.injEq] at h
            subst h
            cases mx with
            | none => cases hm
            | some o =>
              simp only [Option.map_some, Option.some.injEq] at hm
              have hr2 := rel_ev he o
              rw [hm] at hr2
              have hm0 : 0 ≤ m := by omega
              have hhi3 : hi ≠ none := by cases hi <;> simp_all
              have hmcp : m.toNat ≤ cp := by
                cases ro with
                | none => obtain ⟨_, h2⟩ := hno rfl; omega
                | some r => obtain ⟨h1, _⟩ := hso r rfl; omega
              have hb := run_sliceBounds_of (P := P) (w := w) he hl hhi (.inr ⟨o, kk, m, rfl, rel_int hr2, hm0, rfl, hhi3⟩) h1 (by omega) hmcp
              refine ⟨.slice (if m.toNat = l then ad else ad.map (·.add (l * esz))) (hh - l) (m.toNat - l), ?_, .any _⟩
              rw [hv]
              simp only [Instr.sliceAt, Sem.run_bind, run_underlying hu, Result.andThen_ok, Instr.slice, hb, hsze, Sem.run_pure]
          · cases h
        · cases h
      · cases h
    · cases h
  · cases h

end
end Go.Pv

set_option linter.unusedVariables false
set_option linter.unusedSimpArgs false
namespace Go.Pv
open Go

section
variable {P : Program} {w : World} {K : KMap} {U : Key → Prop} {F : Nat → Prop} {S : St}

theorem rel_ptr {k : Key} {n i off : Nat} {v : Value} (h : Rel w K U F (.ptr k n i off) v) : ∃ a, v = .pointer (some a) ∧ U k ∧ a.spot = none ∧ (∀ sz es, K k ≠ some (none, .row sz es)) ∧
    ∀ r sz es, K k = some (some r, .row sz es) → n ≤ es.length ∧ (es.length = n → a = ⟨r, i * sz + off, none⟩) := by
  cases h with
  | ptr _ _ _ _ a hu hs h0 hp => exact ⟨a, rfl, hu, hs, h0, hp⟩

theorem rel_iptr {es : List PV} {i off : Nat} {v : Value} (h : Rel w K U F (.iptr es i off) v) : ∃ r o sz, v = .pointer (some ⟨r, o + i * sz + off, none⟩) ∧ ¬ F r ∧ ¬ own K r ∧ RowAt w K U F r o sz es := by
  cases h with
  | iptr _ _ _ r o sz c e fr hF hK hb hsz hin hc => exact ⟨r, o, sz, rfl, hF, hK, c, e, fr, hb, hsz, hin, hc⟩

theorem iptr_mk {es : List PV} {i off r o sz : Nat} (hF : ¬ F r) (hK : ¬ own K r) (h : RowAt w K U F r o sz es) : Rel w K U F (.iptr es i off) (.pointer (some ⟨r, o + i * sz + off, none⟩)) := by
  obtain ⟨c, e, fr, hb, hsz, hin, hc⟩ := h
  exact .iptr es i off r o sz c e fr hF hK hb hsz hin hc

theorem spot_add {a : Addr} (h : a.spot = none) (n : Nat) : (a.add n).spot = none := by
  unfold Addr.add
  split
  · exact h
  · rfl

theorem run_load_op {t : TypeId} {env : Env} {a : Act} {x : Operand} {v : PV} (hs : Sim w K U F S) (he : ERel w K U F env a.tmps) (h : pval P S env (.load t x) = some v) :
    ∃ u, (Instr.loadAt t (a.eval x)).run P w = .ok u w ∧ Rel w K U F v u := by
  simp only [pval] at h
  split at h
  · rename_i ty e off hty hel
    obtain ⟨r, o, sz, i, es, hv, hrow, hi⟩ := pelem_row hs hel (rel_ev he x)
    obtain ⟨u, h1, h2⟩ := run_loadVar_of hty hrow hi h
    exact ⟨u, by rw [hv]; simp [Instr.loadAt, Instr.sureAddr, h1], h2⟩
  · cases h

theorem run_fieldAddr_op {s : TypeId} {env : Env} {a : Act} {x : Operand} {f : Nat} {v : PV} (he : ERel w K U F env a.tmps) (h : pval P S env (.fieldAddr s x f) = some v) :
    ∃ u, (Instr.fieldAt s (a.eval x) f).run P w = .ok u w ∧ Rel w K U F v u := by
  simp only [pval] at h
  split at h
  · rename_i ty hty
    split at h
    · rename_i fs hk
      obtain ⟨gs, hu, hfs, hall⟩ := struct_of hty hk
      have hx := rel_ev he x
      have place : ∀ (o sz : Nat) (ag : Bool) (ad : Addr), fs[f]? = some (o, sz, ag) → sz ≠ 0 → ∃ g, gs[f]? = some g ∧ g.offset = o ∧ (fieldPlace ad g).run P w = .ok (ad.add o) w := by
        intro o sz ag ad hf hsz
        rw [hfs] at hf
        simp only [List.getElem?_map, Array.getElem?_toList] at hf
        cases hg : gs[f]? with
        | none => rw [hg] at hf; cases hf
        | some g =>
          rw [hg] at hf
          simp only [Option.map_some, Option.some.injEq, Prod.mk.injEq] at hf
          obtain ⟨rfl, rfl, rfl⟩ := hf
          obtain ⟨d, hd⟩ := hall g (by rw [Array.mem_toList_iff]; exact Array.mem_of_getElem? hg)
          obtain ⟨i, hi⟩ := info_of_underlying hd
          have hsz' : (sizeOf g.type).run P w = .ok (P.cellsOf g.type) w := by simp [sizeOf, run_typeInfo_of hi, Program.cellsOf, hi]
          exact ⟨g, rfl, rfl, by simp [fieldPlace, hsz', hsz]⟩
      split at h
      · rename_i o sz ag k n i off hf hx'
        split at h
        · cases h
        · rename_i hsz
          simp only [Option.some.injEq] at h
          subst h
          rw [hx'] at hx
          obtain ⟨ad, hv, hu', hsp, h0, hp⟩ := rel_ptr hx
          rw [hv]
          obtain ⟨g, hg, hgo, hpl⟩ := place o sz ag ad hf hsz
          refine ⟨.pointer (some (ad.add o)), by simp [Instr.fieldAt, run_underlying hu, hg, Instr.sureAddr, hpl], .ptr k n i (off + o) _ hu' (spot_add hsp _) h0 fun r sz' es hk' => ?_⟩
          obtain ⟨h1, h2⟩ := hp r sz' es hk'
          exact ⟨h1, fun e => by rw [h2 e, Addr.add_lit, Nat.add_assoc]⟩
      · rename_i o sz ag es i off hf hx'
        split at h
        · cases h
        · rename_i hsz
          simp only [Option.some.injEq] at h
          subst h
          rw [hx'] at hx
          obtain ⟨r, o', sz', hv, hF, hK, hrw⟩ := rel_iptr hx
          rw [hv]
          obtain ⟨g, hg, hgo, hpl⟩ := place o sz ag ⟨r, o' + i * sz' + off, none⟩ hf hsz
          refine ⟨.pointer (some ⟨r, o' + i * sz' + (off + o), none⟩), ?_, iptr_mk hF hK hrw⟩
          simp only [Instr.fieldAt, Sem.run_bind, run_underlying hu, Result.andThen_ok, hg, Instr.sureAddr, Sem.run_pure, hpl, Addr.add_lit]
          rw [Nat.add_assoc]
      · cases h
    · cases h
  · cases h

theorem run_indexAddr_op {t : TypeId} {env : Env} {a : Act} {x i : Operand} {v : PV} (hs : Sim w K U F S) (he : ERel w K U F env a.tmps) (h : pval P S env (.indexAddr t x i) = some v) :
    ∃ u, (Instr.indexAt t (a.eval x) (a.eval i)).run P w = .ok u w ∧ Rel w K U F v u := by
  simp only [pval] at h
  split at h
  · rename_i ty n hty hi
    obtain ⟨ki, hvi⟩ := rel_pint hi (rel_ev he i)
    have hx := rel_ev he x
    split at h
    · rename_i esz eb et c es hk hx'
      obtain ⟨hu, hesz, _, d, hd⟩ := slice_of hty hk
      obtain ⟨inf, hinf⟩ := info_of_underlying hd
      have hsz : (sizeOf et).run P w = .ok esz w := by rw [hesz]; simp [sizeOf, run_typeInfo_of hinf, Program.cellsOf, hinf]
      rw [hx'] at hx
      obtain ⟨ad, cp, hv, hle, hcap, ha, hrow⟩ := islice_rel hx
      split at h
      · rename_i hn
        obtain ⟨hn0, hn1⟩ := hn
        split at h
        · rename_i e hel
          split at h
          · rename_i hec
            simp only [Option.some.injEq] at h
            subst h
            have hne : es ≠ [] := by rintro rfl; simp at hn1; omega
            obtain ⟨r, o, sz, rfl, hF, hK, c', e', fr, hb, hq, hin, hc⟩ := hrow hne
            obtain ⟨hlt, rfl⟩ := List.getElem?_eq_some_iff.1 hel
            have : sz = esz := by rw [← hec]; exact (hq _ (List.getElem_mem hlt)).symm
            subst this
            refine ⟨.pointer (some ⟨r, o + n.toNat * sz + 0, none⟩), ?_, .iptr es n.toNat 0 r o sz c' e' fr hF hK hb hq hin hc⟩
            rw [hv, hvi]
            simp [Instr.indexAt, asIntOf, run_underlying hu, hn0, hn1, hsz, Addr.add_lit]
          · cases h
        · cases h
      · cases h
    · rename_i esz eb et k len hk hx'
      obtain ⟨hu, hesz, _, d, hd⟩ := slice_of hty hk
      obtain ⟨inf, hinf⟩ := info_of_underlying hd
      have hsz : (sizeOf et).run P w = .ok esz w := by rw [hesz]; simp [sizeOf, run_typeInfo_of hinf, Program.cellsOf, hinf]
      rw [hx'] at hx
      split at h
      · rename_i sz es hf
        split at h
        · rename_i hc
          obtain ⟨hlen, rfl, hn0, hn1⟩ := hc
          simp only [Option.some.injEq] at h
          subst h
          cases hv : a.eval x <;> rw [hv] at hx <;> cases hx
          rename_i ad l cp hu' h0 h1
          obtain ⟨ro, hK⟩ := find_of_K hs hf
          cases ro with
          | none =>
            have := hs.row0 k _ _ hK
            subst this
            simp at hlen
            omega
          | some r =>
            obtain ⟨_, h3⟩ := h1 r _ es hK
            obtain ⟨rfl, rfl, h4, h5⟩ := h3 hlen
            refine ⟨.pointer (some ⟨r, n.toNat * sz, none⟩), ?_, .ptr k l n.toNat 0 _ hu' rfl (fun sz' es' hk' => by rw [hK] at hk'; cases hk') fun r' sz' es' hk' => ?_⟩
            · rw [hvi]
              simp [Instr.indexAt, asIntOf, run_underlying hu, hn0, hn1, hsz, Addr.add_lit]
            · rw [hK] at hk'
              cases hk'
              exact ⟨by omega, fun _ => rfl⟩
        · cases h
      · cases h
    · rename_i m esz ag k l j off hk hx'
      obtain ⟨e, hu, hesz, _, d, hd⟩ := array_of hty hk
      obtain ⟨inf, hinf⟩ := info_of_underlying hd
      have hsz : (sizeOf e).run P w = .ok esz w := by rw [hesz]; simp [sizeOf, run_typeInfo_of hinf, Program.cellsOf, hinf]
      rw [hx'] at hx
      split at h
      · rename_i hn
        obtain ⟨hn0, hn1⟩ := hn
        simp only [Option.some.injEq] at h
        subst h
        obtain ⟨ad, hv, hu', hsp, h0, hp⟩ := rel_ptr hx
        rw [hv]
        refine ⟨.pointer (some (ad.add (n.toNat * esz))), ?_, .ptr k l j (off + n.toNat * esz) _ hu' (spot_add hsp _) h0 fun r sz' es hk' => ?_⟩
        · rw [hvi]
          simp [Instr.indexAt, asIntOf, run_underlying hu, hn0, hn1, hsz, Instr.sureAddr]
        · obtain ⟨h1, h2⟩ := hp r sz' es hk'
          exact ⟨h1, fun e => by rw [h2 e, Addr.add_lit, Nat.add_assoc]⟩
      · cases h
    · rename_i m esz ag es j off hk hx'
      obtain ⟨e, hu, hesz, _, d, hd⟩ := array_of hty hk
      obtain ⟨inf, hinf⟩ := info_of_underlying hd
      have hsz : (sizeOf e).run P w = .ok esz w := by rw [hesz]; simp [sizeOf, run_typeInfo_of hinf, Program.cellsOf, hinf]
      rw [hx'] at hx
      split at h
      · rename_i hn
        obtain ⟨hn0, hn1⟩ := hn
        simp only [Option.some.injEq] at h
        subst h
        obtain ⟨r, o', sz', hv, hF, hK, hrw⟩ := rel_iptr hx
        rw [hv]
        refine ⟨.pointer (some ⟨r, o' + j * sz' + (off + n.toNat * esz), none⟩), ?_, iptr_mk hF hK hrw⟩
        rw [hvi]
        simp [Instr.indexAt, asIntOf, run_underlying hu, hn0, hn1, hsz, Instr.sureAddr, Addr.add_lit, Nat.add_assoc]
      · cases h
    · cases h
  · cases h

theorem run_part_op {t : TypeId} {cs : List PV} {u : Value} {env : Env} {v : PV} {ag : Bool} {sz o : Nat} {e : TypeId} (hx : Rel w K U F (.agg cs) u) (hp : ppart ag sz cs o = some v) (hsz : P.cellsOf e = sz) (hag : aggOf P e = ag) (hd : ∃ d, P.underlying e = some d) :
    ∃ a, u = .agg a ∧ ∃ z, (part e a o).run P w = .ok z w ∧ Rel w K U F v z := by
  cases hx with
  | agg _ a ha hc => exact ⟨a, rfl, ppart_rel hp (.agg _ _ ha hc) hsz hag (.inr (.inr trivial)) hd⟩

theorem run_field_op {t : TypeId} {env : Env} {a : Act} {x : Operand} {f : Nat} {v : PV} (he : ERel w K U F env a.tmps) (h : pval P S env (.field t x f) = some v) :
    ∃ u, (Instr.field t (a.eval x) f).run P w = .ok u w ∧ Rel w K U F v u := by
  simp only [pval] at h
  split at h
  · rename_i ty cs hty hx'
    have hx := rel_ev he x
    rw [hx'] at hx
    split at h
    · rename_i fs hk
      obtain ⟨gs, hu, hfs, hall⟩ := struct_of hty hk
      split at h
      · rename_i o sz ag hf
        rw [hfs] at hf
        simp only [List.getElem?_map, Array.getElem?_toList] at hf
        cases hg : gs[f]? with
        | none => rw [hg] at hf; cases hf
        | some g =>
          rw [hg] at hf
          simp only [Option.map_some, Option.some.injEq, Prod.mk.injEq] at hf
          obtain ⟨rfl, rfl, rfl⟩ := hf
          obtain ⟨b, hb, z, h1, h2⟩ := run_part_op (t := t) (env := env) hx h rfl rfl (hall g (by rw [Array.mem_toList_iff]; exact Array.mem_of_getElem? hg))
          refine ⟨z, ?_, h2⟩
          rw [hb]
          simp [Instr.field, run_underlying hu, hg, asAgg, h1]
      · cases h
    · cases h
  · cases h

theorem run_index_op {t : TypeId} {env : Env} {a : Act} {x i : Operand} {v : PV} (he : ERel w K U F env a.tmps) (h : pval P S env (.index t x i) = some v) :
    ∃ u, (Instr.index t (a.eval x) (a.eval i)).run P w = .ok u w ∧ Rel w K U F v u := by
  simp only [pval] at h
  split at h
  · rename_i ty n cs hty hi hx'
    obtain ⟨ki, hvi⟩ := rel_pint hi (rel_ev he i)
    have hx := rel_ev he x
    rw [hx'] at hx
    split at h
    · rename_i m esz ag hk
      obtain ⟨e, hu, hesz, hag, hd⟩ := array_of hty hk
      split at h
      · rename_i hn
        obtain ⟨b, hb, z, h1, h2⟩ := run_part_op (t := t) (env := env) hx h hesz.symm hag.symm hd
        refine ⟨z, ?_, h2⟩
        obtain ⟨d, hd⟩ := hd
        obtain ⟨inf, hinf⟩ := info_of_underlying hd
        have hsz : (sizeOf e).run P w = .ok esz w := by rw [hesz]; simp [sizeOf, run_typeInfo_of hinf, Program.cellsOf, hinf]
        rw [hb, hvi]
        simp [Instr.index, asIntOf, run_underlying hu, hn, hsz, h1]
      · cases h
    · cases h
  · cases h

theorem run_len_op {c : Call} {env : Env} {a : Act} {v : PV} {ty : TypeId} (hs : Sim w K U F S) (he : ERel w K U F env a.tmps) (hc : c.callee = .builtin .len) (h : pval P S env (.call c) = some v) :
    ∃ u, (Builtin.len_ c.argTypes ty (c.args.map a.eval)).run P w = .ok u w ∧ Rel w K U F v u := by
  simp only [pval, hc] at h
  split at h
  · rename_i x t rest ha ht
    split at h
    · rename_i ti hty
      have hargs : c.args.map a.eval = #[a.eval x] := by
        have : c.args = #[x] := by rw [← Array.toList_inj]; exact ha
        rw [this]; simp
      have htt : c.argTypes[0]? = some t := by rw [← Array.getElem?_toList, ht]; rfl
      have hx := rel_ev he x
      split at h
      · rename_i esz eb e hk
        obtain ⟨hu, _⟩ := slice_of hty hk
        cases hl : plen S (ev env x) with
        | none => rw [hl] at h; cases h
        | some n =>
          rw [hl] at h
          simp only [Option.map_some, Option.some.injEq] at h
          subst h
          refine ⟨.int .i64 n, ?_, .int _ _⟩
          rw [hargs]
          obtain ⟨b, cp, hv⟩ := plen_len hs hl hx
          simp [Builtin.len_, htt, run_underlying hu, hv, goInt]
      · rename_i hk
        split at h
        · rename_i s hs'
          simp only [Option.some.injEq] at h
          subst h
          rw [hs'] at hx
          have hv := rel_str hx
          obtain ⟨d, hu, hkd⟩ := under_of hty
          rw [hk] at hkd
          have hd : d = .string := by
            cases d <;> simp only [kindOf, reduceCtorEq] at hkd
            all_goals first | rfl | (split at hkd <;> cases hkd)
          subst hd
          refine ⟨.int .i64 s.size, ?_, .int _ _⟩
          rw [hargs, hv]
          simp [Builtin.len_, htt, run_underlying hu, goInt]
        · cases h
      · rename_i n esz ag hk
        obtain ⟨e, hu, _⟩ := array_of hty hk
        simp only [Option.some.injEq] at h
        subst h
        refine ⟨.int .i64 n, ?_, .int _ _⟩
        rw [hargs]
        simp [Builtin.len_, htt, run_underlying hu, goInt]
      · cases h
    · cases h
  · cases h


theorem two_ints {c : Call} {env : Env} {a : Act} {k k' : IntKind} {x y : Int} (he : ERel w K U F env a.tmps) (h : c.args.toList.map (ev env) = [.int k x, .int k' y]) : c.args.map a.eval = #[.int k x, .int k' y] := by
  have hl : c.args.toList.length = 2 := by have := congrArg List.length h; simpa using this
  match hc : c.args.toList, hl with
  | [p, q], _ =>
    rw [hc] at h
    simp only [List.map_cons, List.map_nil, List.cons.injEq, and_true] at h
    have h1 := rel_ev he p
    have h2 := rel_ev he q
    rw [h.1] at h1
    rw [h.2] at h2
    have : c.args = #[p, q] := by rw [← Array.toList_inj]; exact hc
    rw [this]
    simp [rel_int h1, rel_int h2]

/-- Operations that only read do as 'pval' says. -/
theorem isNilS_eq {y : Operand} {u : Unit} (h : isNilS y = some u) : y = .const (.slice none 0 0) := by
  unfold isNilS at h
  split at h
  · rfl
  · cases h

theorem pnil_val {p : PV} {v : Value} {b : Bool} (h : pnil p = some b) (hr : Rel w K U F p v) : ∃ a l c, v = .slice a l c ∧ b = a.isNone := by
  unfold pnil at h
  split at h
  · cases h
    cases hr
    exact ⟨_, _, _, rfl, rfl⟩
  · cases h
    cases hr
    exact ⟨_, _, _, rfl, rfl⟩
  · cases h

theorem run_equal_nil {t e : TypeId} (hu : P.underlying t = some (.slice e)) (a : Option Addr) (l c : Nat) : (Op.equal t (.slice a l c) (.slice none 0 0)).run P w = .ok a.isNone w := by
  show (Op.equalIn (9999 + 1) t _ _).run P w = _
  generalize (9999 : Nat) = d
  cases a <;> simp [Op.equalIn, run_underlying hu]

theorem run_nil {op : BinOp} {t : TypeId} {x y : Operand} {env : Env} {a : Act} {r : PV} (he : ERel w K U F env a.tmps) {q : Unit} (hy : isNilS y = some q)
    (h : (match tyOf P t, pnil (ev env x), op with
      | some ty, some b, .eql => (match ty.kind with
        | .slice _ _ _ => some (PV.bool b)
        | _ => none)
      | some ty, some b, .neq => (match ty.kind with
        | .slice _ _ _ => some (.bool (!b))
        | _ => none)
      | _, _, _ => none) = some r) :
    ∃ z, (do eqGuard op t x y (a.eval x) (a.eval y); binOp op t (a.eval x) (a.eval y) : Sem Value).run P w = .ok z w ∧ Rel w K U F r z := by
  have hy' := isNilS_eq hy
  have hv : a.eval y = .slice none 0 0 := by rw [hy']; rfl
  rw [hv]
  split at h
  · rename_i ty b hty hp
    obtain ⟨ad, l, c, hx, rfl⟩ := pnil_val hp (rel_ev he x)
    rw [hx]
    have hg : (eqGuard .eql t x y (.slice ad l c) (.slice none 0 0)).run P w = .ok () w := run_eqGuard_of (.inl ⟨by simp, by simp⟩) w
    split at h
    · rename_i esz eb e hk
      obtain ⟨hu, _⟩ := slice_of hty hk
      cases h
      refine ⟨.bool ad.isNone, ?_, .bool _⟩
      simp only [Sem.run_bind, hg, Result.andThen_ok]
      simp [binOp, run_equal_nil hu]
    · cases h
  · rename_i ty b hty hp
    obtain ⟨ad, l, c, hx, rfl⟩ := pnil_val hp (rel_ev he x)
    rw [hx]
    have hg : (eqGuard .neq t x y (.slice ad l c) (.slice none 0 0)).run P w = .ok () w := run_eqGuard_of (.inl ⟨by simp, by simp⟩) w
    split at h
    · rename_i esz eb e hk
      obtain ⟨hu, _⟩ := slice_of hty hk
      cases h
      refine ⟨.bool (!ad.isNone), ?_, .bool _⟩
      simp only [Sem.run_bind, hg, Result.andThen_ok]
      simp [binOp, run_equal_nil hu]
    · cases h
  · cases h

theorem pval_sound {o : Oper} {env : Env} {a : Act} {v : PV} (hs : Sim w K U F S) (he : ERel w K U F env a.tmps) (h : pval P S env o.op = some v) :
    ∃ u, (execOp a.eval o).run P w = .ok (.value u) w ∧ Rel w K U F v u := by
  cases hop : o.op with
  | move x => rw [hop] at h; simp only [pval, Option.some.injEq] at h; subst h; exact ⟨_, by simp [execOp, hop], rel_ev he x⟩
  | assign x => rw [hop] at h; simp only [pval, Option.some.injEq] at h; subst h; exact ⟨_, by simp [execOp, hop], rel_ev he x⟩
  | pick c x y =>
    rw [hop] at h
    simp only [pval] at h
    split at h
    · rename_i b hb
      have hc := rel_ev he c
      rw [hb] at hc
      simp only [Option.some.injEq] at h; subst h
      refine ⟨if b then a.eval x else a.eval y, by simp [execOp, hop, rel_bool hc, asBool], ?_⟩
      cases b
      · exact rel_ev he y
      · exact rel_ev he x
    · cases h
  | build t parts =>
    rw [hop] at h
    obtain ⟨u, h1, h2⟩ := run_build he h
    exact ⟨u, by simp [execOp, hop, h1], h2⟩
  | load t x =>
    rw [hop] at h
    obtain ⟨u, h1, h2⟩ := run_load_op hs he h
    exact ⟨u, by simp [execOp, hop, h1], h2⟩
  | nilCheck x =>
    rw [hop] at h
    simp only [pval] at h
    have hx := rel_ev he x
    split at h
    · rename_i k n i off hp
      simp only [Option.some.injEq] at h; subst h
      rw [hp] at hx
      obtain ⟨ad, hv, _⟩ := rel_ptr hx
      refine ⟨a.eval x, ?_, hx⟩
      simp [execOp, hop, hv]
    · rename_i es i off hp
      simp only [Option.some.injEq] at h; subst h
      rw [hp] at hx
      obtain ⟨r, o', sz, hv, _⟩ := rel_iptr hx
      refine ⟨a.eval x, ?_, hx⟩
      simp [execOp, hop, hv]
    · rename_i f b c hp
      simp only [Option.some.injEq] at h; subst h
      rw [hp] at hx
      refine ⟨a.eval x, ?_, hx⟩
      cases hv : a.eval x <;> rw [hv] at hx <;> cases hx
      simp [execOp, hop, hv]
    · cases h
  | binOp op t x y yt =>
    rw [hop] at h
    simp only [pval] at h
    split at h
    · rename_i hnil
      obtain ⟨u, h1, h2⟩ := run_nil (K := K) (U := U) (F := F) (w := w) he hnil h
      refine ⟨u, ?_, h2⟩
      simp only [execOp, hop]
      simp only [Sem.run_bind, Sem.run_pure] at h1 ⊢
      rw [h1]
      rfl
    obtain ⟨u, h1, h2⟩ := run_pbin (x := x) (y := y) h (rel_ev he x) (rel_ev he y)
    refine ⟨u, ?_, h2⟩
    simp only [execOp, hop]
    simp only [Sem.run_bind, Sem.run_pure] at h1 ⊢
    rw [h1]
    rfl
  | unOp op t x =>
    rw [hop] at h
    simp only [pval] at h
    have hx := rel_ev he x
    split at h
    · rename_i b hb
      simp only [Option.some.injEq] at h; subst h
      rw [hb] at hx
      exact ⟨_, by simp [execOp, hop, rel_bool hx, Op.unary], .bool _⟩
    · rename_i k n hb
      simp only [Option.some.injEq] at h; subst h
      rw [hb] at hx
      exact ⟨.int k (k.wrap (0 - n)), by simp [execOp, hop, rel_int hx, Op.unary, Op.intArith], .int _ _⟩
    · cases h
  | convert s d x =>
    rw [hop] at h
    simp only [pval] at h
    have hx := rel_ev he x
    split at h
    · rename_i ts td k n h1 h2 h3
      split at h
      · rename_i kd hk
        simp only [Option.some.injEq] at h; subst h
        rw [h3] at hx
        obtain ⟨ds, hds, _⟩ := under_of h1
        refine ⟨.int kd (kd.wrap n), ?_, .int _ _⟩
        simp [execOp, hop, rel_int hx, Go.convert, run_underlying hds, run_underlying (int_of h2 hk), Conv.intToInt]
      · cases h
    · cases h
  | makeFunc fn first captured =>
    rw [hop] at h
    simp only [pval, Option.some.injEq] at h; subst h
    refine ⟨.func fn (first.map a.eval) (captured.map a.eval), by simp [execOp, hop, Instr.makeFunc], .func _ _ _ _ _ (by simp) (by simp) (fun i hi => ?_) (fun i hi => ?_)⟩
    · have hi' : i < first.size := by simpa using hi
      have := rel_ev he first[i]
      simpa [Array.getD_eq_getD_getElem?, hi'] using this
    · have hi' : i < captured.size := by simpa using hi
      have := rel_ev he captured[i]
      simpa [Array.getD_eq_getD_getElem?, hi'] using this
  | slice t x lo hi mx =>
    rw [hop] at h
    obtain ⟨u, h1, h2⟩ := run_slice_op hs he h
    exact ⟨u, by simp [execOp, hop, h1], h2⟩
  | fieldAddr t x f =>
    rw [hop] at h
    obtain ⟨u, h1, h2⟩ := run_fieldAddr_op he h
    exact ⟨u, by simp [execOp, hop, h1], h2⟩
  | field t x f =>
    rw [hop] at h
    obtain ⟨u, h1, h2⟩ := run_field_op he h
    exact ⟨u, by simp [execOp, hop, h1], h2⟩
  | indexAddr t x i =>
    rw [hop] at h
    obtain ⟨u, h1, h2⟩ := run_indexAddr_op hs he h
    exact ⟨u, by simp [execOp, hop, h1], h2⟩
  | index t x i =>
    rw [hop] at h
    obtain ⟨u, h1, h2⟩ := run_index_op he h
    exact ⟨u, by simp [execOp, hop, h1], h2⟩
  | extract x i =>
    rw [hop] at h
    simp only [pval] at h
    have hx := rel_ev he x
    split at h
    · rename_i vs hv
      rw [hv] at hx
      cases hav : a.eval x <;> rw [hav] at hx <;> cases hx
      rename_i b hl hc
      obtain ⟨hi, rfl⟩ := List.getElem?_eq_some_iff.1 h
      refine ⟨b[i]'(by omega), by simp [execOp, hop, hav, Instr.extract, Array.getElem?_eq_getElem (show i < b.size by omega)], ?_⟩
      have := hc i hi
      simpa [Array.getD_eq_getD_getElem?, show i < b.size by omega] using this
    · cases h
  | call c =>
    rw [hop] at h
    cases hc : c.callee with
    | builtin b =>
      cases b with
      | len =>
        obtain ⟨u, h1, h2⟩ := run_len_op (ty := o.type) hs he hc h
        refine ⟨u, ?_, h2⟩
        simp [execOp, hop, resolve, hc, invoke, builtin, h1]
      | min =>
        simp only [pval, hc] at h
        split at h
        · rename_i k x k' y hl
          split at h
          · rename_i hk
            subst hk
            simp only [Option.some.injEq] at h; subst h
            refine ⟨.int k (if y < x then y else x), ?_, .int _ _⟩
            simp [execOp, hop, resolve, hc, invoke, builtin, two_ints he hl, Builtin.min_, Builtin.min2]
          · cases h
        · cases h
      | max =>
        simp only [pval, hc] at h
        split at h
        · rename_i k x k' y hl
          split at h
          · rename_i hk
            subst hk
            simp only [Option.some.injEq] at h; subst h
            refine ⟨.int k (if x < y then y else x), ?_, .int _ _⟩
            simp [execOp, hop, resolve, hc, invoke, builtin, two_ints he hl, Builtin.max_, Builtin.max2]
          · cases h
        · cases h
      | _ => simp [pval, hc] at h
    | _ => simp [pval, hc] at h
  | _ => rw [hop] at h; simp [pval] at h

end
end Go.Pv

set_option linter.unusedVariables false
set_option linter.unusedSimpArgs false
namespace Go.Pv
open Go

/-- What an operation does to the store. -/
abbrev Ups := List (Key × Option Ob)

def St.apply (S : St) : Ups → St
  | [] => S
  | (k, some o) :: r => St.apply (S.set k o) r
  | (k, none) :: r => St.apply (S.del k) r

/-- All that is left behind an operation. -/
structure After (w : World) (K : KMap) (U : Key → Prop) (F : Nat → Prop) (A : Key) (v : PV) (S' : St) (u : Value) (w' : World) (K' : KMap) (U' : Key → Prop) : Prop where
  rel : Rel w' K' U' F v u
  sim : Sim w' K' U' F S'
  step : Step w K U F w' K' U' F
  fr : Fr w K w' K'
  used : ∀ k, U' k → U k ∨ A <:+ k

section
variable {P : Program} {w : World} {K : KMap} {U : Key → Prop} {F : Nat → Prop} {S : St}

/-- A new row. -/
theorem new_row (hs : Sim w K U F S) {A : Key} (hA : ¬ U A) {sz : Nat} {es : List PV} {c : Array Value} {e : TypeId} (hsz : ∀ x ∈ es, x.cells.length = sz) (hin : es.length * sz ≤ c.size)
    (hc : ∀ j m, (hj : j < es.length) → (hm : m < es[j].cells.length) → Rel w K U F (es[j].cells[m]) (c.getD (j * sz + m) undef))
    {w' : World} (hh : w'.heap = w.heap.push (.cells c e)) (hos : w'.os = w.os) (ht : w'.tape = w.tape) (ho : w'.output = w.output) :
    let K' := K.put A (some w.heap.size, .row sz es)
    let U' := fun k => U k ∨ k = A
    Step w K U F w' K' U' F ∧ Sim w' K' U' F (S.set A (.row sz es)) ∧ Fr w K w' K' ∧ K' A = some (some w.heap.size, .row sz es) := by
  have hnew : w'.heap[w.heap.size]? = some (.cells c e) := by rw [hh]; simp
  have hold : ∀ r, r < w.heap.size → w'.heap[r]? = w.heap[r]? := fun r hr => by rw [hh, Array.getElem?_push, if_neg (by omega)]
  obtain ⟨h1, h2, h3⟩ := hs.change (w' := w') A (some w.heap.size) (.row sz es) hos ht ho (by rw [hh]; simp) (fun r hr _ => hold r hr) (fun r hr => by cases hr; exact .inl (Nat.le_refl _)) (fun hu => absurd hu hA)
    (fun st => ⟨nofun, fun r hr => by cases hr; exact ⟨hsz, c, e, hnew, hin, fun j m hj hm => (hc j m hj hm).mono st⟩⟩)
  exact ⟨h1, h2, h3, KMap.put_same _ _ _⟩

theorem rel_ptr_new {w' : World} {K' : KMap} {U' : Key → Prop} {A : Key} {r sz : Nat} {es : List PV} (hU : U' A) (hK : K' A = some (some r, .row sz es)) (i off : Nat) :
    Rel w' K' U' F (.ptr A es.length i off) (.pointer (some ⟨r, i * sz + off, none⟩)) :=
  .ptr A _ i off _ hU rfl (fun sz' es' h => by rw [hK] at h; cases h) fun r' sz' es' h => by
    rw [hK] at h
    cases h
    exact ⟨Nat.le_refl _, fun _ => rfl⟩

theorem rel_slice_new {w' : World} {K' : KMap} {U' : Key → Prop} {A : Key} {r sz cp : Nat} {es : List PV} (hU : U' A) (hK : K' A = some (some r, .row sz es)) (hle : es.length ≤ cp) (hc : ∀ c e fr, w'.heap[r]? = some (.cells c e fr) → cp * sz ≤ c.size) :
    Rel w' K' U' F (.slice A es.length) (.slice (some ⟨r, 0, none⟩) es.length cp) :=
  .slice A _ _ _ cp hU (fun sz' es' h => by rw [hK] at h; cases h) fun r' sz' es' h => by
    rw [hK] at h
    cases h
    exact ⟨Nat.le_refl _, fun _ => ⟨rfl, rfl, hle, hc⟩⟩

/-- alloc, box. -/
theorem new_var (hs : Sim w K U F S) {A : Key} (hA : ¬ U A) {p : PV} {v : Value} (hk : p.known = true) (hv : Rel w K U F p v) (t : TypeId) :
    ∃ K' U', (newVar t v).run P w = .ok ⟨w.heap.size, 0, none⟩ (w.alloc (.cells v.cells t)) ∧ After w K U F A (.ptr A 1 0 0) (S.set A (.row p.cells.length [p])) (.pointer (some ⟨w.heap.size, 0, none⟩)) (w.alloc (.cells v.cells t)) K' U' := by
  obtain ⟨h1, h2⟩ := rel_cells hv hk
  obtain ⟨a1, a2, a3, a4⟩ := new_row (w' := w.alloc (.cells v.cells t)) hs hA (sz := p.cells.length) (es := [p]) (c := v.cells) (e := t) (by simp) (by simp; omega) (fun j m hj hm => by
    obtain rfl : j = 0 := by simp at hj; omega
    simp only [List.getElem_cons_zero] at hm ⊢
    simpa using h2 m hm) rfl rfl rfl rfl
  refine ⟨_, _, rfl, ⟨?_, a2, a1, a3, ?_⟩⟩
  · have := rel_ptr_new (F := F) (w' := w.alloc (.cells v.cells t)) (U' := fun k => U k ∨ k = A) (.inr rfl) a4 0 0
    simpa using this
  · rintro k (h | rfl)
    · exact .inl h
    · exact .inr (List.suffix_refl _)

theorem run_newRow (w : World) (e : TypeId) (c : Array Value) : (newRow e c).run P w = .ok ⟨w.heap.size, 0, none⟩ (w.alloc (.cells c e)) := rfl

/-- A new row that a slice's header stands for. -/
theorem new_slice (hs : Sim w K U F S) {A : Key} (hA : ¬ U A) {sz cp : Nat} {es : List PV} {c : Array Value} {e : TypeId} (hsz : ∀ x ∈ es, x.cells.length = sz) (hle : es.length ≤ cp) (hin : cp * sz ≤ c.size)
    (hc : ∀ j m, (hj : j < es.length) → (hm : m < es[j].cells.length) → Rel w K U F (es[j].cells[m]) (c.getD (j * sz + m) undef))
    {w' : World} (hh : w'.heap = w.heap.push (.cells c e)) (hos : w'.os = w.os) (ht : w'.tape = w.tape) (ho : w'.output = w.output) :
    ∃ K' U', After w K U F A (.slice A es.length) (S.set A (.row sz es)) (.slice (some ⟨w.heap.size, 0, none⟩) es.length cp) w' K' U' := by
  have h0 : es.length * sz ≤ c.size := Nat.le_trans (Nat.mul_le_mul_right _ hle) hin
  obtain ⟨a1, a2, a3, a4⟩ := new_row (w' := w') hs hA hsz h0 hc hh hos ht ho
  refine ⟨_, _, ⟨rel_slice_new (.inr rfl) a4 hle fun c' e' fr h => ?_, a2, a1, a3, ?_⟩⟩
  · rw [hh] at h
    simp at h
    obtain ⟨rfl, _, _⟩ := h
    exact hin
  · rintro k (h | rfl)
    · exact .inl h
    · exact .inr (List.suffix_refl _)

theorem known_zero {z : PV} (h : z.known = true) {v : Value} (hz : z = toPV v) : z.cells.length = v.cells.size ∧ ∀ m, (hm : m < z.cells.length) → Rel w K U F z.cells[m] (v.cells.getD m undef) :=
  rel_cells (by rw [hz]; exact rel_toPV v) h

/-- A zeroed row of n elements. -/
theorem zero_row (n sz : Nat) {z : PV} {v : Value} (hk : z.known = true) (hz : z = toPV v) (hsz : z.cells.length = sz) (hpos : 0 < sz) :
    ((Array.range (n * sz)).map fun i => v.cells[i % v.cells.size]!).size = n * sz ∧
    ∀ j m, j < n → (hm : m < z.cells.length) → Rel w K U F z.cells[m] (((Array.range (n * sz)).map fun i => v.cells[i % v.cells.size]!).getD (j * sz + m) undef) := by
  obtain ⟨h1, h2⟩ := known_zero (w := w) (K := K) (U := U) (F := F) hk hz
  refine ⟨by simp, fun j m hj hm => ?_⟩
  have hlt : j * sz + m < n * sz := by
    have : (j + 1) * sz ≤ n * sz := Nat.mul_le_mul_right _ hj
    rw [Nat.add_mul, Nat.one_mul] at this
    omega
  have hmod : (j * sz + m) % v.cells.size = m := by
    rw [← h1, hsz, Nat.mul_comm, Nat.mul_add_mod, Nat.mod_eq_of_lt (by omega)]
  have e1 : ((Array.range (n * sz)).map fun i => v.cells[i % v.cells.size]!).getD (j * sz + m) undef = v.cells.getD m undef := by
    rw [Array.getD_eq_getD_getElem?, Array.getElem?_map, Array.getElem?_range, if_pos hlt]
    simp only [Option.map_some, Option.getD_some, hmod]
    have : m < v.cells.size := by omega
    simp [Array.getD, this]
  rw [e1]
  exact h2 m hm

/-- Parts laid into a row of elements. -/
def pput (len sz : Nat) : List PV → List (Nat × PV) → Option (List PV)
  | es, [] => some es
  | es, (i, v) :: r => if v.known = true ∧ v.cells.length = sz ∧ i < len then pput len sz (es.set i v) r else none

theorem pput_rel (sz len : Nat) : ∀ (parts : List (Nat × PV)) (vparts : List (Nat × Value)) (es : List PV) (c : Array Value) (out : List PV),
    pput len sz es parts = some out → parts.length = vparts.length →
    (∀ i, (hi : i < parts.length) → (hv : i < vparts.length) → parts[i].1 = vparts[i].1 ∧ Rel w K U F parts[i].2 vparts[i].2) →
    es.length = len → (∀ x ∈ es, x.cells.length = sz) → c.size = len * sz →
    (∀ j m, (hj : j < es.length) → (hm : m < es[j].cells.length) → Rel w K U F (es[j].cells[m]) (c.getD (j * sz + m) undef)) →
    ∃ c', Instr.fill (fun i => some (i * sz, sz)) c vparts = some c' ∧ out.length = len ∧ (∀ x ∈ out, x.cells.length = sz) ∧ c'.size = len * sz ∧
      ∀ j m, (hj : j < out.length) → (hm : m < out[j].cells.length) → Rel w K U F (out[j].cells[m]) (c'.getD (j * sz + m) undef)
  | [], [], es, c, out, h, _, _, h1, h2, h3, h4 => by
    simp only [pput, Option.some.injEq] at h
    subst h
    exact ⟨c, rfl, h1, h2, h3, h4⟩
  | [], _ :: _, _, _, _, _, hl, _, _, _, _, _ => by simp at hl
  | _ :: _, [], _, _, _, _, hl, _, _, _, _, _ => by simp at hl
  | (i, p) :: parts, (i', v) :: vparts, es, c, out, h, hl, hp, h1, h2, h3, h4 => by
    have h0 := hp 0 (by simp) (by simp)
    simp only [List.getElem_cons_zero] at h0
    obtain ⟨rfl, hr⟩ := h0
    simp only [pput] at h
    split at h
    · rename_i hc
      obtain ⟨hk, hsz, hi⟩ := hc
      obtain ⟨g1, g2⟩ := rel_cells hr hk
      have hfit : i * sz + sz ≤ len * sz := by
        have : (i + 1) * sz ≤ len * sz := Nat.mul_le_mul_right _ hi
        rw [Nat.add_mul, Nat.one_mul] at this
        exact this
      obtain ⟨f1, f2⟩ := fold_set (i * sz) v.cells.toList 0 c (by simp; omega)
      have hfold : v.cells.zipIdx.foldl (fun cs (x : Value × Nat) => cs.setIfInBounds (i * sz + x.2) x.1) c = (v.cells.toList.zipIdx 0).foldl (fun cs (x : Value × Nat) => cs.setIfInBounds (i * sz + x.2) x.1) c := by
        rw [← Array.foldl_toList, Array.toList_zipIdx]
      rw [← hfold] at f1 f2
      have hcells : ∀ j m, (hj : j < (es.set i p).length) → (hm : m < (es.set i p)[j].cells.length) → Rel w K U F ((es.set i p)[j].cells[m]) ((v.cells.zipIdx.foldl (fun cs (x : Value × Nat) => cs.setIfInBounds (i * sz + x.2) x.1) c).getD (j * sz + m) undef) := by
        intro j m hj hm
        rw [f2]
        simp only [Nat.add_zero, Array.length_toList]
        by_cases e : j = i
        · subst e
          simp only [List.getElem_set_self] at hm ⊢
          rw [if_pos (by omega)]
          have := g2 m hm
          have e2 : j * sz + m - j * sz = m := by omega
          rw [e2]
          simpa [Array.getD_eq_getD_getElem?] using this
        · have hj' : j < es.length := by simpa using hj
          have hel : (es.set i p)[j] = es[j] := List.getElem_set_ne (Ne.symm e) _
          have hm' : m < es[j].cells.length := by rw [hel] at hm; exact hm
          have hm2 : m < sz := by rw [← h2 _ (List.getElem_mem hj')]; exact hm'
          rw [if_neg]
          · simp only [hel]
            exact h4 j m hj' hm'
          · rintro ⟨q1, q2⟩
            rcases Nat.lt_or_gt_of_ne e with q | q
            · have : (j + 1) * sz ≤ i * sz := Nat.mul_le_mul_right _ q
              rw [Nat.add_mul, Nat.one_mul] at this
              omega
            · have : (i + 1) * sz ≤ j * sz := Nat.mul_le_mul_right _ q
              rw [Nat.add_mul, Nat.one_mul] at this
              omega
      obtain ⟨c', k1, k2⟩ := pput_rel sz len parts vparts (es.set i p) _ out h (by simpa using hl) (fun j hj hv => hp (j + 1) (Nat.succ_lt_succ hj) (Nat.succ_lt_succ hv)) (by simpa using h1) (fun x hx => by
        rcases List.mem_or_eq_of_mem_set hx with hx | rfl
        · exact h2 x hx
        · exact hsz) (by rw [f1]; exact h3) hcells
      refine ⟨c', ?_, k2⟩
      simp only [Instr.fill]
      have hb : (decide (v.cells.size ≠ sz) || decide (i * sz + v.cells.size > c.size)) = false := by simp; omega
      rw [hb]
      simpa using k1
    · cases h

end
end Go.Pv

set_option linter.unusedVariables false
set_option linter.unusedSimpArgs false
namespace Go.Pv
open Go

def PV.one : PV → Bool
  | .any | .agg _ | .tup _ | .val _ => false
  | _ => true

def PV.isAgg : PV → Bool
  | .agg _ => true
  | _ => false

/-- An element with a part of it stored anew. -/
def pset (e : PV) (off : Nat) (v : PV) : PV :=
  if off = 0 ∧ v.cells.length = e.cells.length then v else
  match e with
  | .agg cs => .agg (cs.take off ++ (v.cells ++ cs.drop (off + v.cells.length)))
  | e => e

/-- Operations that write; A: the key of what is new. -/
def peff (P : Program) (A : Key) (S : St) (env : Env) : Op → Option (PV × Ups)
  | .alloc t => match tyOf P t with
    | some ty => match ty.zero with
      | some z => if z.known = true then some (.ptr A 1 0 0, [(A, some (.row z.cells.length [z]))]) else none
      | none => none
    | none => none
  | .box _ x => if (ev env x).known = true then some (.ptr A 1 0 0, [(A, some (.row (ev env x).cells.length [ev env x]))]) else none
  | .buildSlice t len parts => match tyOf P t with
    | some ty => match ty.kind with
      | .slice esz _ e => match tyOf P e with
        | some te => match te.zero with
          | some z => if z.known = true ∧ z.cells.length = esz ∧ 0 < esz ∧ (0 < len ∨ parts.toList = []) ∧ len * esz ≤ 16777216 then
              (match pput len esz (List.replicate len z) (parts.toList.map fun p => (p.1, ev env p.2)) with
              | some es => some (.slice A len, [(A, some (.row esz es))])
              | none => none) else none
          | none => none
        | none => none
      | _ => none
    | none => none
  | .makeSlice t l c => match tyOf P t, ev env l, ev env c with
    | some ty, .int _ n, .int _ m => match ty.kind with
      | .slice esz eb e => match tyOf P e with
        | some te => match te.zero with
          | some z => if z.known = true ∧ z.cells.length = esz ∧ 0 < esz ∧ 0 ≤ n ∧ n ≤ m ∧ m ≤ 9223372036854775807 ∧ eb * m ≤ 281474976710656 then some (.slice A n.toNat, [(A, some (.row esz (List.replicate n.toNat z)))]) else none
          | none => none
        | none => none
      | _ => none
    | _, _, _ => none
  | .makeMap t none => some (.map A, [(A, some (.mp []))])
  | .store t x y => match tyOf P t, ev env x with
    | some ty, .ptr k n i off => match S.find k with
      | some (.row sz es) => if es.length = n then (match es[i]? with
        | some e => if (ev env y).known = true ∧ 0 < ty.sz ∧ (ev env y).cells.length = ty.sz ∧ off + ty.sz ≤ e.cells.length ∧ (ev env y).cells.all PV.one = true ∧ (e.isAgg = true ∨ e.cells.length = 1) then
            some (.undef, [(k, some (.row sz (es.set i (pset e off (ev env y)))))]) else none
        | none => none) else none
      | _ => none
    | _, _ => none
  | _ => none

section
variable {P : Program} {w : World} {K : KMap} {U : Key → Prop} {F : Nat → Prop} {S : St}

theorem rel_one {p : PV} {v : Value} (h : Rel w K U F p v) (h1 : p.one = true) : v.oneCell' = true := by
  cases h <;> first | rfl | simp [PV.one] at h1

theorem pset_cells {e v : PV} {off : Nat} (hfit : off + v.cells.length ≤ e.cells.length) (hagg : e.isAgg = true ∨ e.cells.length = 1) (hpos : 0 < v.cells.length) :
    (pset e off v).cells = e.cells.take off ++ (v.cells ++ e.cells.drop (off + v.cells.length)) := by
  unfold pset
  split
  · rename_i h
    obtain ⟨rfl, h2⟩ := h
    simp [h2]
  · rename_i h
    have : ∃ cs, e = .agg cs := by
      by_cases h1 : e.cells.length = 1
      · exact absurd ⟨by omega, by omega⟩ h
      · have := hagg.resolve_right h1
        cases e <;> simp only [PV.isAgg, reduceCtorEq] at this
        exact ⟨_, rfl⟩
    obtain ⟨cs, rfl⟩ := this
    rfl

theorem range_zero {α : Type} (f : Nat → α) : (Array.range 0).map f = #[] := by simp [Array.range]

theorem run_makeSlice_op {A : Key} {t : TypeId} {env : Env} {a : Act} {l c : Operand} {v : PV} {ups : Ups} (hs : Sim w K U F S) (he : ERel w K U F env a.tmps) (hA : ¬ U A) (h : peff P A S env (.makeSlice t l c) = some (v, ups)) :
    ∃ u w' K' U', (Instr.makeSlice t (a.eval l) (a.eval c)).run P w = .ok u w' ∧ After w K U F A v (S.apply ups) u w' K' U' := by
  simp only [peff] at h
  split at h
  · rename_i ty kn n km m hty hl hc
    split at h
    · rename_i esz eb e hk
      obtain ⟨hu, hesz, heb, d, hd⟩ := slice_of hty hk
      split at h
      · rename_i te hte
        split at h
        · rename_i z hz
          split at h
          · rename_i hcond
            obtain ⟨hzk, hzl, hpos, h0, h1, h2, h3⟩ := hcond
            simp only [Option.some.injEq, Prod.mk.injEq] at h
            obtain ⟨rfl, rfl⟩ := h
            have hvl := rel_ev he l
            rw [hl] at hvl
            have hvc := rel_ev he c
            rw [hc] at hvc
            obtain ⟨zv, hzv, hzz⟩ := zero_of hte hz w
            obtain ⟨b1, b2, i, d', hi, _, _, _, b3, b4⟩ := tyOf_info hte
            have hsz : i.size = esz := by rw [b3, ← b1, hesz]
            have hbytes : i.bytes = eb := by rw [heb]; simp [Program.bytesOf, hi]
            have wn : IntKind.i64.wrap n = n := by simp [IntKind.wrap, IntKind.bits, IntKind.signed]; omega
            have wm : IntKind.i64.wrap m = m := by simp [IntKind.wrap, IntKind.bits, IntKind.signed]; omega
            obtain ⟨z1, z2⟩ := zero_row (w := w) (K := K) (U := U) (F := F) m.toNat esz hzk hzz hzl hpos
            have hlen : (List.replicate n.toNat z).length = n.toNat := by simp
            obtain ⟨K', U', hAfter⟩ := new_slice (w' := w.alloc (.cells ((Array.range (m.toNat * esz)).map fun i => zv.cells[i % zv.cells.size]!) e)) hs hA (sz := esz) (cp := m.toNat) (es := List.replicate n.toNat z) (e := e) (c := (Array.range (m.toNat * esz)).map fun i => zv.cells[i % zv.cells.size]!)
              (fun x hx => by rw [List.eq_of_mem_replicate hx]; exact hzl) (by rw [hlen]; omega) (by rw [z1]; exact Nat.le_refl _) (fun j q hj hq => by
                simp only [List.getElem_replicate] at hq ⊢
                exact z2 j q (by rw [hlen] at hj; omega) hq) rfl rfl rfl rfl
            rw [hlen] at hAfter
            refine ⟨_, _, K', U', ?_, hAfter⟩
            have hbig : ¬ (m < 0 ∨ (281474976710656 : Int) < eb * m) := by omega
            have hl0 : ¬ (n < 0) := by omega
            have hlc : ¬ (n > m) := by omega
            rw [rel_int hvl, rel_int hvc]
            have hsize : (sizeOf e).run P w = .ok esz w := by simp [sizeOf, run_typeInfo_of hi, hsz]
            have t1 : (decide (m < 0) || decide ((eb : Int) * m > 2 ^ 48)) = false := by simp; omega
            have t2 : (decide (n < 0)) = false := by simp; omega
            have t3 : (decide (n > m)) = false := by simp; omega
            have hw : ∀ w' : World, w' = w → w'.alloc (.cells ((Array.range (m.toNat * esz)).map fun i => zv.cells[i % zv.cells.size]!) e) = w.alloc (.cells ((Array.range (m.toNat * esz)).map fun i => zv.cells[i % zv.cells.size]!) e) := fun _ h => by rw [h]
            by_cases hm : m.toNat = 0
            · have : (Array.range (m.toNat * esz)).map (fun i => zv.cells[i % zv.cells.size]!) = #[] := by simp [hm]
              rw [this]
              simp only [Instr.makeSlice, Sem.run_bind, run_underlying hu, Result.andThen_ok, asInt, asIntOf, Sem.run_pure, run_typeInfo_of hi, hbytes, wn, wm, t1, t2, t3, Bool.or_false, Bool.false_eq_true, if_false, run_askRoom, hsize]
              simp [hm, run_newRow, range_zero]
            · have hne : ¬ (m.toNat * esz = 0) := by
                intro e0
                rcases Nat.mul_eq_zero.1 e0 with h | h <;> omega
              simp only [Instr.makeSlice, Sem.run_bind, run_underlying hu, Result.andThen_ok, asInt, asIntOf, Sem.run_pure, run_typeInfo_of hi, hbytes, wn, wm, t1, t2, t3, Bool.or_false, Bool.false_eq_true, if_false, run_askRoom, hsize, if_neg hne, hzv, run_newRow]
          · cases h
        · cases h
      · cases h
    · cases h
  · cases h

theorem run_buildSlice_op {A : Key} {t : TypeId} {env : Env} {a : Act} {len : Nat} {parts : Array (Nat × Operand)} {v : PV} {ups : Ups} (hs : Sim w K U F S) (he : ERel w K U F env a.tmps) (hA : ¬ U A) (h : peff P A S env (.buildSlice t len parts) = some (v, ups)) :
    ∃ u w' K' U', (Instr.buildSlice t len (parts.map fun (i, x) => (i, a.eval x))).run P w = .ok u w' ∧ After w K U F A v (S.apply ups) u w' K' U' := by
  simp only [peff] at h
  split at h
  · rename_i ty hty
    split at h
    · rename_i esz eb e hk
      obtain ⟨hu, hesz, heb, d, hd⟩ := slice_of hty hk
      split at h
      · rename_i te hte
        split at h
        · rename_i z hz
          split at h
          · rename_i hcond
            obtain ⟨hzk, hzl, hpos, hl0, hmax⟩ := hcond
            split at h
            · rename_i es hput
              simp only [Option.some.injEq, Prod.mk.injEq] at h
              obtain ⟨rfl, rfl⟩ := h
              obtain ⟨zv, hzv, hzz⟩ := zero_of hte hz w
              obtain ⟨b1, b2, i, d', hi, _, _, _, b3, b4⟩ := tyOf_info hte
              have hsz : i.size = esz := by rw [b3, ← b1, hesz]
              have hsize : (sizeOf e).run P w = .ok esz w := by simp [sizeOf, run_typeInfo_of hi, hsz]
              obtain ⟨z1, z2⟩ := zero_row (w := w) (K := K) (U := U) (F := F) len esz hzk hzz hzl hpos
              obtain ⟨c', f1, f2, f3, f4, f5⟩ := pput_rel (w := w) (K := K) (U := U) (F := F) esz len (parts.toList.map fun p => (p.1, ev env p.2)) (parts.map fun (i, x) => (i, a.eval x)).toList (List.replicate len z) _ es hput (by simp)
                (fun i hi hv => by
                  simp only [List.getElem_map, Array.toList_map]
                  exact ⟨by simp, by simpa using rel_ev he _⟩) (by simp) (fun x hx => by rw [List.eq_of_mem_replicate hx]; exact hzl) z1 (fun j q hj hq => by
                  simp only [List.getElem_replicate] at hq ⊢
                  exact z2 j q (by simpa using hj) hq)
              obtain ⟨K', U', hAfter⟩ := new_slice (w' := w.alloc (.cells c' e)) hs hA (sz := esz) (cp := len) (es := es) (e := e) (c := c') f3 (by omega) (by omega) f5 rfl rfl rfl rfl
              rw [f2] at hAfter
              refine ⟨_, _, K', U', ?_, hAfter⟩
              have hb : ¬ (len * esz > 2 ^ 24) := by omega
              by_cases h00 : len = 0
              · subst h00
                have hp0 : parts = #[] := by
                  rcases hl0 with h | h
                  · omega
                  · exact Array.toList_eq_nil_iff.1 h
                subst hp0
                simp [Instr.fill] at f1
                subst f1
                simp only [Instr.buildSlice, Sem.run_bind, run_underlying hu, Result.andThen_ok, hsize, if_neg hb, Sem.run_pure]
                simp [run_newRow, Instr.fill, range_zero]
              have hne : ¬ (len * esz = 0) := by
                intro e0
                rcases Nat.mul_eq_zero.1 e0 with h | h <;> omega
              simp only [Instr.buildSlice, Sem.run_bind, run_underlying hu, Result.andThen_ok, hsize, if_neg hb, if_neg hne, hzv, Sem.run_pure, f1]
              simp [run_newRow]
            · cases h
          · cases h
        · cases h
      · cases h
    · cases h
  · cases h

/-- What a store writes. -/
theorem run_storeVar_of {t : TypeId} {ty : TyI} (ht : tyOf P t = some ty) {r sz : Nat} {c : Array Value} {e : TypeId} {x : Nat} {v : Value} (hb : w.heap[r]? = some (.cells c e (0, 0))) (hl : v.cells.size = ty.sz) (hin : x + ty.sz ≤ c.size) (h1 : ∀ u ∈ v.cells.toList, u.oneCell' = true) :
    (storeVar t ⟨r, x, none⟩ v).run P w = .ok () (w.setRow r (c.toList.take x ++ v.cells.toList ++ c.toList.drop (x + v.cells.toList.length)).toArray) := by
  have hst := run_storeCells_at P r x e v.cells.toList 0 c w hb (by simp; omega) h1
  simp only [Nat.add_zero] at hst
  simp only [storeVar, Sem.run_bind, run_sizeOf_of ht, Result.andThen_ok]
  rw [if_neg (by simp [hl])]
  exact hst

theorem getD_splice (c : List Value) (vs : List Value) (x m : Nat) (h : x + vs.length ≤ c.length) :
    (c.take x ++ vs ++ c.drop (x + vs.length)).toArray.getD m undef = if x ≤ m ∧ m < x + vs.length then vs.getD (m - x) undef else c.getD m undef := by
  simp only [Array.getD_eq_getD_getElem?, List.getElem?_toArray, List.getD_eq_getElem?_getD]
  by_cases h1 : x ≤ m ∧ m < x + vs.length
  · rw [if_pos h1, List.append_assoc, List.getElem?_append_right (by simp; omega), List.getElem?_append_left (by simp; omega)]
    have : m - (c.take x).length = m - x := by simp; omega
    rw [this]
  · rw [if_neg h1]
    by_cases h2 : m < x
    · rw [List.append_assoc, List.getElem?_append_left (by simp; omega), List.getElem?_take, if_pos h2]
    · rw [List.append_assoc, List.getElem?_append_right (by simp; omega), List.getElem?_append_right (by simp; omega), List.getElem?_drop]
      have : x + vs.length + (m - (c.take x).length - vs.length) = m := by simp; omega
      rw [this]

theorem run_store_op {A : Key} {t : TypeId} {env : Env} {a : Act} {x y : Operand} {v : PV} {ups : Ups} (hs : Sim w K U F S) (he : ERel w K U F env a.tmps) (h : peff P A S env (.store t x y) = some (v, ups)) :
    v = .undef ∧ ∃ w' K' U', (Instr.storeAt t (a.eval x) (a.eval y)).run P w = .ok () w' ∧ After w K U F A v (S.apply ups) undef w' K' U' := by
  simp only [peff] at h
  split at h
  · rename_i ty k n i off hty hx'
    split at h
    · rename_i sz es hf
      split at h
      · rename_i hlen
        split at h
        · rename_i e hel
          split at h
          · rename_i hcond
            obtain ⟨hyk, hy0, hyl, hfit, hone, hagg⟩ := hcond
            simp only [Option.some.injEq, Prod.mk.injEq] at h
            obtain ⟨rfl, rfl⟩ := h
            refine ⟨rfl, ?_⟩
            have hx := rel_ev he x
            rw [hx'] at hx
            obtain ⟨ad, hv, hu', hsp, h0, hp⟩ := rel_ptr hx
            obtain ⟨ro, hK⟩ := find_of_K hs hf
            cases ro with
            | none => exact absurd hK (h0 _ _)
            | some r =>
              obtain ⟨_, had⟩ := hp r sz es hK
              have had := had hlen
              obtain ⟨hq, c, ct, hb, hin, hc⟩ := hs.row k r sz es hK
              obtain ⟨hilt, hie⟩ := List.getElem?_eq_some_iff.1 hel
              have hesz : e.cells.length = sz := by rw [← hie]; exact hq _ (List.getElem_mem hilt)
              have hy := rel_ev he y
              obtain ⟨y1, y2⟩ := rel_cells hy hyk
              have hrow : i * sz + sz ≤ es.length * sz := by
                have : (i + 1) * sz ≤ es.length * sz := Nat.mul_le_mul_right _ hilt
                rw [Nat.add_mul, Nat.one_mul] at this
                exact this
              have h1 : ∀ u ∈ (a.eval y).cells.toList, u.oneCell' = true := by
                intro u hu
                obtain ⟨m, hm, rfl⟩ := List.getElem_of_mem hu
                simp only [Array.length_toList] at hm
                have h2 := y2 m (by omega)
                have h3 : (ev env y).cells[m].one = true := List.all_eq_true.1 hone _ (List.getElem_mem _)
                have := rel_one h2 h3
                simpa [Array.getD, hm] using this
              have hstore := run_storeVar_of (P := P) (w := w) hty (sz := sz) (x := i * sz + off) (v := a.eval y) hb (by omega) (by omega) h1
              have hpc := pset_cells (e := e) (v := ev env y) (off := off) (by omega) hagg (by omega)
              have hset : (w.setRow r (c.toList.take (i * sz + off) ++ (a.eval y).cells.toList ++ c.toList.drop (i * sz + off + (a.eval y).cells.toList.length)).toArray).heap[r]? = some (.cells (c.toList.take (i * sz + off) ++ (a.eval y).cells.toList ++ c.toList.drop (i * sz + off + (a.eval y).cells.toList.length)).toArray ct (0, 0)) := setRow_heap w r c _ ct (0, 0) hb
              have hsize : (c.toList.take (i * sz + off) ++ (a.eval y).cells.toList ++ c.toList.drop (i * sz + off + (a.eval y).cells.toList.length)).toArray.size = c.size := by simp; omega
              obtain ⟨s1, s2, s3⟩ := hs.change (w' := w.setRow r (c.toList.take (i * sz + off) ++ (a.eval y).cells.toList ++ c.toList.drop (i * sz + off + (a.eval y).cells.toList.length)).toArray) k (some r) (.row sz (es.set i (pset e off (ev env y)))) rfl rfl rfl (by simp)
                (fun r' hr' hn => setRow_other w r r' _ (fun e => hn _ (e ▸ hK))) (fun r' hr' => by cases hr'; exact .inr ⟨_, hK⟩)
                (fun _ => ⟨nofun, fun r' hr' => by
                  cases hr'
                  refine ⟨some r, es, hK, by simp, fun _ => ⟨rfl, fun c' e' fr' hc' => ?_⟩⟩
                  rw [hset] at hc'
                  cases hc'
                  exact ⟨c, ct, (0, 0), hb, by omega⟩⟩)
                (fun st => ⟨nofun, fun r' hr' => by
                  cases hr'
                  refine ⟨fun z hz' => ?_, _, ct, hset, by rw [hsize]; simpa using hin, fun j m hj hm => ?_⟩
                  · rcases List.mem_or_eq_of_mem_set hz' with hz' | rfl
                    · exact hq z hz'
                    · rw [hpc]; simp; omega
                  · rw [getD_splice _ _ _ _ (by simp; omega)]
                    simp only [Array.length_toList]
                    by_cases ej : j = i
                    · subst ej
                      simp only [List.getElem_set_self] at hm ⊢
                      have hmsz : m < sz := by rw [hpc] at hm; simp at hm; omega
                      simp only [hpc]
                      by_cases em : off ≤ m ∧ m < off + (ev env y).cells.length
                      · rw [if_pos (by omega), List.getElem_append_right (by simp; omega), List.getElem_append_left (by simp; omega)]
                        have e1 : m - (e.cells.take off).length = m - off := by simp; omega
                        have e2 : j * sz + m - (j * sz + off) = m - off := by omega
                        simp only [e1, e2]
                        have := (y2 (m - off) (by omega)).mono st
                        simpa [Array.getD_eq_getD_getElem?] using this
                      · rw [if_neg (by omega)]
                        have hbase := (hc j m hilt (by rw [hie]; omega)).mono st
                        have hg : c.toList.getD (j * sz + m) undef = c.getD (j * sz + m) undef := by simp [Array.getD_eq_getD_getElem?]
                        rw [hg]
                        by_cases em2 : m < off
                        · rw [List.getElem_append_left (by simp; omega)]
                          simp only [List.getElem_take]
                          simpa only [hie, Array.length_toList] using hbase
                        · rw [List.getElem_append_right (by simp; omega), List.getElem_append_right (by simp; omega)]
                          simp only [List.getElem_drop]
                          have e3 : off + (ev env y).cells.length + (m - (e.cells.take off).length - (ev env y).cells.length) = m := by simp; omega
                          simp only [e3]
                          simpa only [hie, Array.length_toList] using hbase
                    · have hj' : j < es.length := by simpa using hj
                      have hel' : (es.set i (pset e off (ev env y)))[j] = es[j] := List.getElem_set_ne (Ne.symm ej) _
                      have hm' : m < es[j].cells.length := by rw [hel'] at hm; exact hm
                      have hm2 : m < sz := by rw [← hq _ (List.getElem_mem hj')]; exact hm'
                      rw [if_neg]
                      · have hg : c.toList.getD (j * sz + m) undef = c.getD (j * sz + m) undef := by simp [Array.getD_eq_getD_getElem?]
                        rw [hg]
                        simp only [hel']
                        simpa only [Array.length_toList] using (hc j m hj' hm').mono st
                      · rintro ⟨q1, q2⟩
                        rcases Nat.lt_or_gt_of_ne ej with q | q
                        · have : (j + 1) * sz ≤ i * sz := Nat.mul_le_mul_right _ q
                          rw [Nat.add_mul, Nat.one_mul] at this
                          omega
                        · have : (i + 1) * sz ≤ j * sz := Nat.mul_le_mul_right _ q
                          rw [Nat.add_mul, Nat.one_mul] at this
                          omega⟩)
              refine ⟨_, _, _, ?_, ⟨rel_undef, s2, s1, s3, ?_⟩⟩
              · rw [hv, had]
                simp only [Instr.storeAt, Instr.sureAddr, Sem.run_bind, Sem.run_pure, Result.andThen_ok]
                exact hstore
              · rintro k' (h | rfl)
                · exact .inl h
                · exact .inl hu'
          · cases h
        · cases h
      · cases h
    · cases h
  · cases h

end
end Go.Pv

set_option linter.unusedVariables false
set_option linter.unusedSimpArgs false
namespace Go.Pv
open Go

/-- The elements that a slice shows. -/
def pelems (S : St) : PV → Option (List PV)
  | .islice _ es => some es
  | .slice k len =>
    match S.find k with
    | some (.row _ es) => if es.length = len then some es else none
    | _ => none
  | .part k e n lo hi =>
    match S.find k with
    | some (.row sz es) => if es.length = n ∧ sz = e then some ((es.take hi).drop lo) else none
    | _ => none
  | .val (.slice _ 0 _) => some []
  | _ => none

/-- c holds the elements es, sz cells each. -/
def Cells (w : World) (K : KMap) (U : Key → Prop) (F : Nat → Prop) (sz : Nat) (es : List PV) (c : Array Value) : Prop :=
  c.size = es.length * sz ∧ ∀ j m, (hj : j < es.length) → (hm : m < es[j].cells.length) → Rel w K U F (es[j].cells[m]) (c.getD (j * sz + m) undef)

section
variable {P : Program} {w : World} {K : KMap} {U : Key → Prop} {F : Nat → Prop} {S : St}

theorem RowAt.load {r o sz : Nat} {es : List PV} (h : RowAt w K U F r o sz es) (n : Nat) (hn : n ≤ es.length) : ∃ c, (∀ w' : World, w'.heap = w.heap → (loadCells ⟨r, o, none⟩ (n * sz)).run P w' = .ok c w') ∧ Cells w K U F sz (es.take n) c := by
  obtain ⟨c, e, fr, hb, hsz, hin, hc⟩ := h
  have hle : n * sz ≤ es.length * sz := Nat.mul_le_mul_right _ hn
  have hrun : ∀ w' : World, w'.heap = w.heap → (loadCells ⟨r, o, none⟩ (n * sz)).run P w' = .ok ((List.range (n * sz)).map fun j => c.getD (o + j) undef).toArray w' := fun w' hw =>
    run_loadCells (P := P) w' ⟨r, o, none⟩ (n * sz) (fun j => c.getD (o + j) undef) (fun j hj => by
      have : o + j < c.size := by omega
      simp [Addr.add_lit, World.cell?, hw, hb, this])
  refine ⟨_, hrun, by simp [Nat.min_eq_left hn], fun j m hj hm => ?_⟩
  have hj' : j < es.length := by simp at hj; omega
  have hjn : j < n := by simp at hj; omega
  have e1 : (es.take n)[j] = es[j] := by simp
  have hm' : m < es[j].cells.length := by rw [e1] at hm; exact hm
  have hm2 : m < sz := by rw [← hsz _ (List.getElem_mem hj')]; exact hm'
  have hlt : j * sz + m < n * sz := by
    have : (j + 1) * sz ≤ n * sz := Nat.mul_le_mul_right _ hjn
    rw [Nat.add_mul, Nat.one_mul] at this
    omega
  simp only [e1]
  have := hc j m hj' hm'
  rw [Nat.add_assoc] at this
  simpa [Array.getD_eq_getD_getElem?, hlt] using this

/-- A slice's first elements, as the machine reads them. -/
theorem pelems_srcN (hs : Sim w K U F S) {p : PV} {v : Value} {es : List PV} {sz : Nat} (h : pelems S p = some es) (hr : Rel w K U F p v) (hsz : ∀ x ∈ es, x.cells.length = sz) :
    ∃ a cp, v = .slice a es.length cp ∧ es.length ≤ cp ∧ ∀ n, n ≤ es.length → ∃ c, (∀ w' : World, w'.heap = w.heap → (Builtin.firstCells sz n v).run P w' = .ok c w') ∧ Cells w K U F sz (es.take n) c := by
  have nilc : Cells w K U F sz [] #[] := ⟨by simp, fun j m hj => by simp at hj⟩
  have emp : ∀ (a : Option Addr) (cp : Nat), ∀ n, n ≤ ([] : List PV).length → ∃ c, (∀ w' : World, w'.heap = w.heap → (Builtin.firstCells sz n (.slice a 0 cp)).run P w' = .ok c w') ∧ Cells w K U F sz (([] : List PV).take n) c := by
    intro a cp n hn
    have : n = 0 := by simpa using hn
    subst this
    exact ⟨#[], fun w' hw' => by cases a <;> simp [Builtin.firstCells, loadCells, loadCellsFrom], nilc⟩
  unfold pelems at h
  split at h
  · simp only [Option.some.injEq] at h
    subst h
    obtain ⟨a, cp, rfl, hle, hcap, ha, hrow⟩ := islice_rel hr
    refine ⟨a, cp, rfl, hle, ?_⟩
    rename_i es'
    by_cases hne : es' = []
    · subst hne
      exact emp a cp
    · intro n hn
      obtain ⟨r, o, sz', rfl, hF, hK, hrw⟩ := hrow hne
      have : sz' = sz := by
        obtain ⟨_, _, _, _, hq, _⟩ := hrw
        cases es' with
        | nil => exact absurd rfl hne
        | cons x0 _ => rw [← hq x0 (by simp), hsz x0 (by simp)]
      subst this
      obtain ⟨c, h1, h2⟩ := hrw.load (P := P) n hn
      exact ⟨c, fun w' hw' => by simpa [Builtin.firstCells] using h1 w' hw', h2⟩
  · rename_i k len
    split at h
    · rename_i sz' es' hf
      split at h
      · rename_i hl
        simp only [Option.some.injEq] at h
        subst h
        obtain ⟨ro, hK⟩ := find_of_K hs hf
        cases hr with
        | slice _ _ a l cp hu h0 h1 =>
        cases ro with
        | none =>
          obtain ⟨_, h3⟩ := h0 _ _ hK
          obtain ⟨rfl, rfl⟩ := h3 hl
          have := hs.row0 k _ _ hK
          subst this
          exact ⟨a, 0, rfl, by simp, emp a 0⟩
        | some r =>
          obtain ⟨_, h3⟩ := h1 _ _ _ hK
          obtain ⟨rfl, rfl, h4, h5⟩ := h3 hl
          obtain ⟨g1, c, e, g2, g3, g4⟩ := hs.row k r _ _ hK
          refine ⟨some ⟨r, 0, none⟩, cp, by rw [hl], by omega, ?_⟩
          by_cases hne : es' = []
          · subst hne
            have : l = 0 := by simpa using hl.symm
            subst this
            exact emp _ _
          · intro n hn
            have : sz' = sz := by
              cases es' with
              | nil => exact absurd rfl hne
              | cons x0 _ => rw [← g1 x0 (by simp), hsz x0 (by simp)]
            subst this
            have hrw : RowAt w K U F r 0 sz' es' := ⟨c, e, (0, 0), g2, g1, by omega, fun j m hj hm => by rw [Nat.zero_add]; exact g4 j m hj hm⟩
            obtain ⟨c', k1, k2⟩ := hrw.load (P := P) n hn
            refine ⟨c', fun w' hw' => ?_, k2⟩
            simpa [Builtin.firstCells] using k1 w' hw'
      · cases h
    · cases h
  · rename_i k e n' lo hi
    split at h
    · rename_i sz' es' hf
      split at h
      · rename_i hl
        simp only [Option.some.injEq] at h
        subst h
        have hw : pwin S sz' (.part k e n' lo hi) = some (k, lo, hi, es') := by simp [pwin, hf, hl.1, hl.2.symm]
        obtain ⟨_, hlh, hhn, hU, ro, a, cp, hK, rfl, hno, hso⟩ := pwin_val hs hw hr
        have hlen : ((es'.take hi).drop lo).length = hi - lo := by simp; omega
        have hcp : hi - lo ≤ cp := by
          cases ro with
          | none => obtain ⟨_, h2⟩ := hno rfl; omega
          | some r => obtain ⟨h1, _⟩ := hso r rfl; omega
        refine ⟨a, cp, by rw [hlen], by omega, fun n hn => ?_⟩
        by_cases hne : (es'.take hi).drop lo = []
        · have h0 : n = 0 := by rw [hne] at hn; simpa using hn
          subst h0
          refine ⟨#[], fun w' hw' => by cases a <;> simp [Builtin.firstCells, loadCells, loadCellsFrom], ?_⟩
          rw [List.take_zero]
          exact nilc
        · have hpos : 0 < hi - lo := by rw [← hlen]; exact List.length_pos_iff.2 hne
          cases ro with
          | none => obtain ⟨_, h2⟩ := hno rfl; omega
          | some r =>
            obtain ⟨g0, g00, _⟩ := hso r rfl
            have ha := g00 (by omega)
            subst ha
            obtain ⟨g1, c, ct, g2, g3, g4⟩ := hs.row k r _ _ hK
            have : sz' = sz := by
              have hx : ((es'.take hi).drop lo)[0]'(by omega) ∈ (es'.take hi).drop lo := List.getElem_mem _
              rw [← hsz _ hx, g1 _ (List.mem_of_mem_take (List.mem_of_mem_drop hx))]
            subst this
            have hrw : RowAt w K U F r 0 sz' es' := ⟨c, ct, (0, 0), g2, g1, by omega, fun j m hj hm => by rw [Nat.zero_add]; exact g4 j m hj hm⟩
            have hrw2 := hrw.window lo hi (by omega)
            rw [Nat.zero_add] at hrw2
            obtain ⟨c', k1, k2⟩ := hrw2.load (P := P) n hn
            exact ⟨c', fun w' hw' => by simpa [Builtin.firstCells] using k1 w' hw', k2⟩
      · cases h
    · cases h
  · rename_i a cp
    simp only [Option.some.injEq] at h
    subst h
    cases hr
    exact ⟨a, cp, rfl, Nat.zero_le _, emp a cp⟩
  · cases h

/-- A slice's elements, as the machine reads them. -/
theorem pelems_src (hs : Sim w K U F S) {p : PV} {v : Value} {es : List PV} {sz : Nat} (h : pelems S p = some es) (hr : Rel w K U F p v) (hsz : ∀ x ∈ es, x.cells.length = sz) :
    ∃ a cp, v = .slice a es.length cp ∧ es.length ≤ cp ∧ ∃ c, (∀ w' : World, w'.heap = w.heap → (Builtin.firstCells sz es.length v).run P w' = .ok c w') ∧ Cells w K U F sz es c := by
  obtain ⟨a, cp, h1, h2, h3⟩ := pelems_srcN (P := P) hs h hr hsz
  obtain ⟨c, h4, h5⟩ := h3 es.length (Nat.le_refl _)
  rw [List.take_length] at h5
  exact ⟨a, cp, h1, h2, c, h4, h5⟩

/-- append, where it makes a new array. -/
theorem run_append_grow' {t : TypeId} {ty te : TyI} {esz eb e : Nat} (hty : tyOf P t = some ty) (hk : ty.kind = .slice esz eb e) (hte : tyOf P e = some te) {z : PV} (hz : te.zero = some z) (hzl : z.cells.length = esz) (hzk : z.known = true)
    {base : Option Addr} {sLen sCap : Nat} {x : Value} {n : Nat} {old new : Array Value} (rt : TypeId)
    (hx : (Builtin.lenOf x).run P w = .ok n w) (ho : ∀ w' : World, w'.heap = w.heap → (Builtin.firstCells esz sLen (.slice base sLen sCap)).run P w' = .ok old w') (hn : ∀ w' : World, w'.heap = w.heap → (Builtin.firstCells esz n x).run P w' = .ok new w')
    (hgrow : sCap < sLen + n) (hb : (sLen + n) * eb ≤ 140737488355328) (h63 : sLen + n ≤ 9223372036854775807) :
    ∃ cp rest, sLen + n ≤ cp ∧ rest.size = (cp - (sLen + n)) * esz ∧
      (Builtin.append_ #[t, t] rt #[.slice base sLen sCap, x]).run P w = .ok (.slice (some ⟨w.heap.size, 0, none⟩) (sLen + n) cp) (w.drew.alloc (.cells (old ++ new ++ rest) e)) := by
  obtain ⟨hu, hesz, heb, d, hd⟩ := slice_of hty hk
  obtain ⟨b1, b2, i, d', hi, _, _, _, b3, b4⟩ := tyOf_info hte
  have hsz : i.size = esz := by rw [b3, ← b1, hesz]
  have hbytes : i.bytes = eb := by rw [heb]; simp [Program.bytesOf, hi]
  obtain ⟨zv, hzv, hzz⟩ := zero_of hte hz w.drew
  have hzs : zv.cells.size = esz := by
    have := (known_zero (w := w) (K := fun _ => none) (U := fun _ => False) (F := fun _ => False) hzk hzz).1
    omega
  refine ⟨grownCap w (sLen + n) sCap e, Builtin.zeroCells zv.cells (grownCap w (sLen + n) sCap e - (sLen + n)), grownCap_ge w _ _ _, ?_, ?_⟩
  · rw [size_zeroCells, hzs]
  · have hsize : ∀ w : World, (sizeOf e).run P w = .ok esz w := fun w => by simp [sizeOf, run_typeInfo_of hi, hsz]
    have hfit := growslice_fits (bytes := i.bytes) hgrow (by rw [hbytes]; exact hb)
    have h1 : ¬ (sLen + n ≤ sCap) := by omega
    have h2 : ¬ (((sLen + n : Nat) : Int) > IntKind.i64.max ∧ (False ∨ i.bytes = 0)) := by
      have : IntKind.i64.max = 9223372036854775807 := by simp [IntKind.max, IntKind.signed, IntKind.bits]
      rw [this]
      omega
    have h3 : ¬ (Builtin.nextslicecap (sLen + n) sCap * i.bytes > 2 ^ 48) := by omega
    have hch : (choose (.appendCap (sLen + n) sCap e)).run P w = .ok (grownCap w (sLen + n) sCap e) w.drew := by
      simp [grownCap, Question.forced]
    have hdr : w.drew.heap = w.heap := rfl
    have hforced : (Question.appendCap (sLen + n) sCap e).forced = false := rfl
    simp [Builtin.append_, run_underlying hu, hsize, hx, h1, run_typeInfo_of hi, h3, run_newRow, hforced]
    rw [if_neg (by omega), ho _ hdr]
    simp only [Result.andThen_ok]
    rw [hn _ hdr]
    simp only [Result.andThen_ok]
    rw [hzv]
    simp [grownCap]

theorem lenOf_slice (a : Option Addr) (n c : Nat) (w : World) : (Builtin.lenOf (.slice a n c)).run P w = .ok n w := rfl

theorem cells_append {sz : Nat} {es xs : List PV} {c d r : Array Value} (hsz : ∀ x ∈ es, x.cells.length = sz) (hsz' : ∀ x ∈ xs, x.cells.length = sz) (h1 : Cells w K U F sz es c) (h2 : Cells w K U F sz xs d) :
    (es ++ xs).length * sz ≤ (c ++ d ++ r).size ∧ ∀ j m, (hj : j < (es ++ xs).length) → (hm : m < (es ++ xs)[j].cells.length) → Rel w K U F ((es ++ xs)[j].cells[m]) ((c ++ d ++ r).getD (j * sz + m) undef) := by
  obtain ⟨a1, a2⟩ := h1
  obtain ⟨b1, b2⟩ := h2
  refine ⟨by simp [Nat.add_mul]; omega, fun j m hj hm => ?_⟩
  by_cases h : j < es.length
  · have e1 : (es ++ xs)[j] = es[j] := List.getElem_append_left h
    have hm' : m < es[j].cells.length := by rw [e1] at hm; exact hm
    have hlt : j * sz + m < c.size := by
      rw [a1]
      have : (j + 1) * sz ≤ es.length * sz := Nat.mul_le_mul_right _ h
      rw [Nat.add_mul, Nat.one_mul] at this
      have := hsz _ (List.getElem_mem h)
      omega
    simp only [e1]
    have := a2 j m h hm'
    simpa [Array.getD_eq_getD_getElem?, Array.getElem?_append, hlt, show j * sz + m < c.size + d.size by omega] using this
  · have hj' : j - es.length < xs.length := by simp at hj; omega
    have e1 : (es ++ xs)[j] = xs[j - es.length] := List.getElem_append_right (by omega)
    have hm' : m < xs[j - es.length].cells.length := by rw [e1] at hm; exact hm
    have hlt : (j - es.length) * sz + m < d.size := by
      rw [b1]
      have : (j - es.length + 1) * sz ≤ xs.length * sz := Nat.mul_le_mul_right _ hj'
      rw [Nat.add_mul, Nat.one_mul] at this
      have := hsz' _ (List.getElem_mem hj')
      omega
    have e2 : j * sz + m = c.size + ((j - es.length) * sz + m) := by
      rw [a1, ← Nat.add_assoc, ← Nat.add_mul]
      congr 2
      omega
    simp only [e1]
    have := b2 _ m hj' hm'
    rw [e2]
    simpa [Array.getD_eq_getD_getElem?, Array.getElem?_append, show ¬ (c.size + ((j - es.length) * sz + m) < c.size) by omega, hlt] using this

end

section
variable {P : Program} {w : World} {K : KMap} {U : Key → Prop} {F : Nat → Prop} {S : St}
/-- Elements written over a part of a row. -/
theorem splice_row (hs : Sim w K U F S) {k : Key} {r sz lo : Nat} {es xs : List PV} {cn : Array Value} (hK : K k = some (some r, .row sz es)) (hccn : Cells w K U F sz xs cn) (hsx : ∀ x ∈ xs, x.cells.length = sz)
    (hone : ∀ x ∈ xs, ∀ c ∈ x.cells, c.one = true) (hpos : 0 < sz) (hle : lo + xs.length ≤ es.length) :
    ∃ W K' U', (storeCells ⟨r, lo * sz, none⟩ cn.toList).run P w = .ok () W ∧ After w K U F k .undef (S.set k (.row sz (es.take lo ++ xs ++ es.drop (lo + xs.length)))) undef W K' U' ∧ ∀ k', U' k' → U k' := by
  obtain ⟨q1, c, ct, q2, q3, q4⟩ := hs.row k r _ _ hK
  have hUk : U k := hs.used k _ hK
  have hmul : (lo + xs.length) * sz ≤ es.length * sz := Nat.mul_le_mul_right _ hle
  have hfit : lo * sz + xs.length * sz ≤ c.size := by rw [← Nat.add_mul]; omega
  have hone' : ∀ u ∈ cn.toList, u.oneCell' = true := by
    intro u hu'
    obtain ⟨m, hm, rfl⟩ := List.getElem_of_mem hu'
    have hm2 : m < xs.length * sz := by rw [← hccn.1]; simpa using hm
    have hj : m / sz < xs.length := Nat.div_lt_of_lt_mul (by rw [Nat.mul_comm]; exact hm2)
    have hq' : m % sz < xs[m / sz].cells.length := by rw [hsx _ (List.getElem_mem hj)]; exact Nat.mod_lt _ hpos
    have hrel := hccn.2 (m / sz) (m % sz) hj hq'
    rw [Nat.div_add_mod'] at hrel
    have := rel_one hrel (hone _ (List.getElem_mem hj) _ (List.getElem_mem hq'))
    have hm3 : m < cn.size := by simpa using hm
    simpa [Array.getD, hm3] using this
  have hst := run_storeCells_at P r (lo * sz) ct cn.toList 0 c w q2 (by simp [hccn.1]; omega) hone'
  simp only [Nat.add_zero] at hst
  have hset := setRow_heap w r c (c.toList.take (lo * sz) ++ cn.toList ++ c.toList.drop (lo * sz + cn.toList.length)).toArray ct (0, 0) q2
  have hsz2 : (c.toList.take (lo * sz) ++ cn.toList ++ c.toList.drop (lo * sz + cn.toList.length)).toArray.size = c.size := by simp [hccn.1]; omega
  generalize hW : w.setRow r (c.toList.take (lo * sz) ++ cn.toList ++ c.toList.drop (lo * sz + cn.toList.length)).toArray = W at hst hset
  have hWo : ∀ r', r' ≠ r → W.heap[r']? = w.heap[r']? := fun r' hr' => by rw [← hW]; exact setRow_other w r r' _ hr'
  have hlen : (es.take lo ++ xs ++ es.drop (lo + xs.length)).length = es.length := by simp; omega
  have hat : ∀ j, (hj : j < es.length) → (hj' : j < (es.take lo ++ xs ++ es.drop (lo + xs.length)).length) → (es.take lo ++ xs ++ es.drop (lo + xs.length))[j] = if h : lo ≤ j ∧ j < lo + xs.length then xs[j - lo] else es[j] := by
    intro j hj hj'
    split
    · rename_i h
      rw [List.getElem_append_left (by simp; omega), List.getElem_append_right (by simp; omega)]
      congr 1
      simp; omega
    · rename_i h
      by_cases hlt : j < lo
      · rw [List.getElem_append_left (by simp; omega), List.getElem_append_left (by simp; omega)]
        simp
      · rw [List.getElem_append_right (by simp; omega)]
        simp only [List.getElem_drop]
        congr 1
        simp; omega
  have hsall : ∀ x ∈ es.take lo ++ xs ++ es.drop (lo + xs.length), x.cells.length = sz := by
    intro x hx
    simp only [List.mem_append] at hx
    rcases hx with (hx | hx) | hx
    · exact q1 _ (List.mem_of_mem_take hx)
    · exact hsx _ hx
    · exact q1 _ (List.mem_of_mem_drop hx)
  obtain ⟨s1, s2, s3⟩ := hs.change (w' := W) k (some r) (.row sz (es.take lo ++ xs ++ es.drop (lo + xs.length))) (by rw [← hW]; rfl) (by rw [← hW]; rfl) (by rw [← hW]; rfl) (by rw [← hW]; simp)
    (fun r' hr' hn => hWo r' (fun e => hn _ (e ▸ hK))) (fun r' hr' => by cases hr'; exact .inr ⟨_, hK⟩)
    (fun _ => ⟨nofun, fun r' hr' => by
      cases hr'
      exact ⟨some r, es, hK, by omega, fun e => ⟨rfl, fun c' e fr hc' => by
        rw [hset] at hc'
        cases hc'
        exact ⟨c, ct, (0, 0), q2, by omega⟩⟩⟩⟩)
    (fun st => ⟨nofun, fun r' hr' => by
      cases hr'
      refine ⟨hsall, _, ct, hset, by rw [hsz2, hlen]; omega, fun j m hj hm => ?_⟩
      have hj0 : j < es.length := by rw [hlen] at hj; exact hj
      have hm2 : m < sz := by rw [← hsall _ (List.getElem_mem hj)]; exact hm
      have hq := hat j hj0 hj
      rw [getD_splice _ _ _ _ (by simp [hccn.1]; omega)]
      simp only [Array.length_toList, hccn.1]
      by_cases hin : lo ≤ j ∧ j < lo + xs.length
      · rw [dif_pos hin] at hq
        have e2 : j * sz = lo * sz + (j - lo) * sz := by rw [← Nat.add_mul]; congr 1; omega
        have hlt : (j - lo) * sz + m < xs.length * sz := by
          have : (j - lo + 1) * sz ≤ xs.length * sz := Nat.mul_le_mul_right _ (by omega)
          rw [Nat.add_mul, Nat.one_mul] at this
          omega
        rw [if_pos (by omega)]
        have e3 : j * sz + m - lo * sz = (j - lo) * sz + m := by omega
        rw [e3]
        have hm' : m < (xs[j - lo]'(by omega)).cells.length := by rw [hsx _ (List.getElem_mem _)]; exact hm2
        have := (hccn.2 _ m (by omega) hm').mono st
        have e4 : (es.take lo ++ xs ++ es.drop (lo + xs.length))[j].cells[m] = (xs[j - lo]'(by omega)).cells[m] := by simp only [hq]
        rw [e4]
        simpa [Array.getD_eq_getD_getElem?] using this
      · rw [dif_neg hin] at hq
        have hno : ¬ (lo * sz ≤ j * sz + m ∧ j * sz + m < lo * sz + xs.length * sz) := by
          rintro ⟨h1, h2⟩
          by_cases hlt : j < lo
          · have : (j + 1) * sz ≤ lo * sz := Nat.mul_le_mul_right _ hlt
            rw [Nat.add_mul, Nat.one_mul] at this
            omega
          · have : (lo + xs.length) * sz ≤ j * sz := Nat.mul_le_mul_right _ (by omega)
            rw [Nat.add_mul] at this
            omega
        rw [if_neg hno]
        have hm' : m < es[j].cells.length := by rw [q1 _ (List.getElem_mem _)]; exact hm2
        have := (q4 j m hj0 hm').mono st
        have e4 : (es.take lo ++ xs ++ es.drop (lo + xs.length))[j].cells[m] = es[j].cells[m] := by simp only [hq]
        rw [e4]
        have hg : c.toList.getD (j * sz + m) undef = c.getD (j * sz + m) undef := by simp [Array.getD_eq_getD_getElem?]
        rw [hg]
        exact this⟩)
  refine ⟨W, _, _, hst, ⟨rel_undef, s2, s1, s3, ?_⟩, ?_⟩
  · rintro k' (h | rfl)
    · exact .inl h
    · exact .inl hUk
  · rintro k' (h | rfl)
    · exact h
    · exact hUk

end

/-- append; A: the key of a new row. -/
def pappend (P : Program) (A : Key) (S : St) (t : TypeId) (p q : PV) : Option (PV × Ups) :=
  match tyOf P t with
  | some ty => match ty.kind with
    | .slice esz eb e => match tyOf P e with
      | some te => match te.zero, pelems S p, pelems S q with
        | some z, some es, some xs =>
          if z.known = true ∧ z.cells.length = esz ∧ 0 < esz ∧ (∀ x ∈ es, x.cells.length = esz) ∧ (∀ x ∈ xs, x.cells.length = esz) ∧ (es.length + xs.length) * eb ≤ 140737488355328 ∧ es.length + xs.length ≤ 9223372036854775807 then
            match p with
            | .islice (some c) _ => if c < es.length + xs.length then some (.slice A (es.length + xs.length), [(A, some (.row esz (es ++ xs)))]) else if xs.length = 0 then some (p, []) else none
            | .slice k _ => match S.find k with
              | some (.row sz _) => if sz = esz ∧ (∀ x ∈ xs, ∀ c ∈ x.cells, c.one = true) then some (.slice k (es.length + xs.length), [(k, some (.row esz (es ++ xs)))]) else none
              | _ => none
            | .part k e n lo hi => match S.find k with
              | some (.row sz rs) => if sz = esz ∧ (∀ x ∈ xs, ∀ c ∈ x.cells, c.one = true) ∧ hi + xs.length ≤ n then some (.part k e n lo (hi + xs.length), [(k, some (.row esz (rs.take hi ++ xs ++ rs.drop (hi + xs.length))))]) else none
              | _ => none
            | _ => none
          else none
        | _, _, _ => none
      | none => none
    | _ => none
  | none => none

section
variable {P : Program} {w : World} {K : KMap} {U : Key → Prop} {F : Nat → Prop} {S : St}

theorem After.refl (hs : Sim w K U F S) {A : Key} {p : PV} {v : Value} (h : Rel w K U F p v) : After w K U F A p S v w K U :=
  ⟨h, hs, ⟨fun _ h => h, fun r c e fr hb hf hk => ⟨hb, hf, hk⟩, fun k sz es' hu hk => ⟨es', hk, rfl⟩, fun k r sz es' hu hk => ⟨some r, es', hk, Nat.le_refl _, fun _ => ⟨rfl, fun c' e fr hc => ⟨c', e, fr, hc, Nat.le_refl _⟩⟩⟩, fun k r es' hu hk => ⟨es', hk⟩⟩, Fr.refl w K, fun k h => .inl h⟩

theorem Sim.congr {S' : St} (hs : Sim w K U F S) (h : ∀ k, S'.find k = S.find k) : Sim w K U F S' :=
  { hs with key := fun k => (hs.key k).trans (h k).symm }

theorem run_append_op {A : Key} {t : TypeId} {p q : PV} {u v : Value} {r : PV} {ups : Ups} (rt : TypeId) (hs : Sim w K U F S) (hp : Rel w K U F p u) (hq : Rel w K U F q v) (hA : ¬ U A) (h : pappend P A S t p q = some (r, ups)) :
    ∃ u' w' K' U', (Builtin.append_ #[t, t] rt #[u, v]).run P w = .ok u' w' ∧ After w K U F A r (S.apply ups) u' w' K' U' := by
  unfold pappend at h
  split at h
  · rename_i ty hty
    split at h
    · rename_i esz eb e hk
      split at h
      · rename_i te hte
        split at h
        · rename_i z es xs hz hes hxs
          split at h
          · rename_i hcond
            obtain ⟨hzk, hzl, hpos, hse, hsx, hb, h63⟩ := hcond
            obtain ⟨pa, pc, rfl, hple, co, hco, hcco⟩ := pelems_src (P := P) hs hes hp hse
            obtain ⟨qa, qc, rfl, hqle, cn, hcn, hccn⟩ := pelems_src (P := P) hs hxs hq hsx
            obtain ⟨hu, hesz, heb, d, hd⟩ := slice_of hty hk
            have hdr : w.drew.heap = w.heap := rfl
            have grow : pc < es.length + xs.length → ∃ cp rest, es.length + xs.length ≤ cp ∧ rest.size = (cp - (es.length + xs.length)) * esz ∧
                (Builtin.append_ #[t, t] rt #[.slice pa es.length pc, .slice qa xs.length qc]).run P w = .ok (.slice (some ⟨w.heap.size, 0, none⟩) (es.length + xs.length) cp) (w.drew.alloc (.cells (co ++ cn ++ rest) e)) := fun hg =>
              run_append_grow' hty hk hte hz hzl hzk rt (lenOf_slice _ _ _ _) hco hcn hg hb h63
            have hsall : ∀ x ∈ es ++ xs, x.cells.length = esz := fun x hx => (List.mem_append.1 hx).elim (hse x) (hsx x)
            have hlen : (es ++ xs).length = es.length + xs.length := by simp
            split at h
            · rename_i c es'
              split at h
              · rename_i hlt
                simp only [Option.some.injEq, Prod.mk.injEq] at h
                obtain ⟨rfl, rfl⟩ := h
                have hpc : pc = c := by
                  obtain ⟨_, _, e1, _, e2, _⟩ := islice_rel hp
                  injection e1 with _ _ e3
                  exact e3.trans (e2 c rfl)
                obtain ⟨cp, rest, g1, g2, g3⟩ := grow (by omega)
                obtain ⟨k1, k2⟩ := cells_append (r := rest) hse hsx hcco hccn
                obtain ⟨K', U', hAf⟩ := new_slice (w' := w.drew.alloc (.cells (co ++ cn ++ rest) e)) hs hA (sz := esz) (cp := cp) (es := es ++ xs) (c := co ++ cn ++ rest) (e := e) hsall (by omega) (by
                  have : cp * esz = (es.length + xs.length) * esz + (cp - (es.length + xs.length)) * esz := by rw [← Nat.add_mul]; congr 1; omega
                  simp only [Array.size_append, g2, hcco.1, hccn.1]
                  rw [Nat.add_mul] at this
                  omega) k2 rfl rfl rfl rfl
                rw [hlen] at hAf
                exact ⟨_, _, K', U', g3, hAf⟩
              · rename_i hnlt
                split at h
                · rename_i hx0
                  simp only [Option.some.injEq, Prod.mk.injEq] at h
                  obtain ⟨rfl, rfl⟩ := h
                  have hpc : pc = c := by
                    obtain ⟨_, _, e1, _, e2, _⟩ := islice_rel hp
                    injection e1 with _ _ e3
                    exact e3.trans (e2 c rfl)
                  have hxs0 : xs = [] := List.eq_nil_of_length_eq_zero hx0
                  subst hxs0
                  have hcn0 : cn = #[] := by
                    have := hccn.1
                    simp at this
                    exact this
                  subst hcn0
                  have hsize : (sizeOf e).run P w = .ok esz w := by
                    obtain ⟨b1, b2, i, d', hi, _, _, _, b3, b4⟩ := tyOf_info hte
                    have hsz : i.size = esz := by rw [b3, ← b1, hesz]
                    simp [sizeOf, run_typeInfo_of hi, hsz]
                  refine ⟨.slice pa es.length pc, w, K, U, ?_, After.refl hs hp⟩
                  have hle : es.length ≤ pc := hple
                  have hcn' := hcn w rfl
                  simp only [List.length_nil] at hcn'
                  cases pa with
                  | none => simp [Builtin.append_, run_underlying hu, hsize, Builtin.lenOf, hle, hcn']
                  | some b => simp [Builtin.append_, run_underlying hu, hsize, Builtin.lenOf, hle, hcn', storeCells]
                · cases h
            · rename_i k len
              split at h
              · rename_i sz es' hf
                split at h
                · rename_i hc2
                  obtain ⟨rfl, hone⟩ := hc2
                  simp only [Option.some.injEq, Prod.mk.injEq] at h
                  obtain ⟨rfl, rfl⟩ := h
                  have hes2 : es' = es ∧ es.length = len := by
                    simp only [pelems, hf] at hes
                    split at hes
                    · rename_i hl
                      simp only [Option.some.injEq] at hes
                      subst hes
                      exact ⟨rfl, hl⟩
                    · cases hes
                  obtain ⟨rfl, hl⟩ := hes2
                  obtain ⟨ro, hK⟩ := find_of_K hs hf
                  obtain ⟨b1, b2, i, d', hi, _, _, _, b3, b4⟩ := tyOf_info hte
                  have hisz : i.size = sz := by rw [b3, ← b1, hesz]
                  have hsize : ∀ w : World, (sizeOf e).run P w = .ok sz w := fun w => by simp [sizeOf, run_typeInfo_of hi, hisz]
                  have hUk : U k := hs.used k _ hK
                  by_cases hx0 : xs = []
                  · subst hx0
                    have hcn0 : cn = #[] := by
                      have := hccn.1
                      simp at this
                      exact this
                    subst hcn0
                    have hsim : Sim w K U F (St.apply S [(k, some (.row sz (es' ++ [])))]) := hs.congr fun k' => by
                      simp only [St.apply, St.find_set, List.append_nil]
                      split
                      · rename_i e; subst e; exact hf.symm
                      · rfl
                    refine ⟨.slice pa es'.length pc, w, K, U, ?_, After.refl hsim ?_⟩
                    · have hle : es'.length ≤ pc := hple
                      have hcn' := hcn w rfl
                      simp only [List.length_nil] at hcn'
                      cases pa with
                      | none => simp [Builtin.append_, run_underlying hu, hsize, Builtin.lenOf, hle, hcn']
                      | some b => simp [Builtin.append_, run_underlying hu, hsize, Builtin.lenOf, hle, hcn', storeCells]
                    · simpa [hl] using hp
                  · have hxpos : 0 < xs.length := List.length_pos_iff.2 hx0
                    by_cases hroom : es'.length + xs.length ≤ pc
                    · -- in place
                      cases hp with
                      | slice _ _ _ _ _ hu2 h0 h1 =>
                      cases ro with
                      | none =>
                        obtain ⟨_, h3⟩ := h0 _ _ hK
                        obtain ⟨_, rfl⟩ := h3 hl
                        omega
                      | some r =>
                        obtain ⟨_, h3⟩ := h1 _ _ _ hK
                        obtain ⟨rfl, _, h4, h5⟩ := h3 hl
                        obtain ⟨q1, c, ct, q2, q3, q4⟩ := hs.row k r _ _ hK
                        have hcs := h5 _ _ _ q2
                        have hfit : (es'.length + xs.length) * sz ≤ c.size := Nat.le_trans (Nat.mul_le_mul_right _ hroom) hcs
                        have hfit' : es'.length * sz + xs.length * sz ≤ c.size := by rw [← Nat.add_mul]; exact hfit
                        have hone' : ∀ u ∈ cn.toList, u.oneCell' = true := by
                          intro u hu'
                          obtain ⟨m, hm, rfl⟩ := List.getElem_of_mem hu'
                          have hm2 : m < xs.length * sz := by rw [← hccn.1]; simpa using hm
                          have hj : m / sz < xs.length := Nat.div_lt_of_lt_mul (by rw [Nat.mul_comm]; exact hm2)
                          have hq' : m % sz < xs[m / sz].cells.length := by rw [hsx _ (List.getElem_mem hj)]; exact Nat.mod_lt _ hpos
                          have hrel := hccn.2 (m / sz) (m % sz) hj hq'
                          rw [Nat.div_add_mod'] at hrel
                          have := rel_one hrel (hone _ (List.getElem_mem hj) _ (List.getElem_mem hq'))
                          have hm3 : m < cn.size := by simpa using hm
                          simpa [Array.getD, hm3] using this
                        have hst := run_storeCells_at P r (es'.length * sz) ct cn.toList 0 c w q2 (by simp [hccn.1]; omega) hone'
                        simp only [Nat.add_zero] at hst
                        have hset := setRow_heap w r c (c.toList.take (es'.length * sz) ++ cn.toList ++ c.toList.drop (es'.length * sz + cn.toList.length)).toArray ct (0, 0) q2
                        have hsz2 : (c.toList.take (es'.length * sz) ++ cn.toList ++ c.toList.drop (es'.length * sz + cn.toList.length)).toArray.size = c.size := by simp [hccn.1]; omega
                        generalize hW : w.setRow r (c.toList.take (es'.length * sz) ++ cn.toList ++ c.toList.drop (es'.length * sz + cn.toList.length)).toArray = W at hst hset
                        have hWo : ∀ r', r' ≠ r → W.heap[r']? = w.heap[r']? := fun r' hr' => by rw [← hW]; exact setRow_other w r r' _ hr'
                        obtain ⟨s1, s2, s3⟩ := hs.change (w' := W) k (some r) (.row sz (es' ++ xs)) (by rw [← hW]; rfl) (by rw [← hW]; rfl) (by rw [← hW]; rfl) (by rw [← hW]; simp)
                          (fun r' hr' hn => hWo r' (fun e => hn _ (e ▸ hK))) (fun r' hr' => by cases hr'; exact .inr ⟨_, hK⟩)
                          (fun _ => ⟨nofun, fun r' hr' => by
                            cases hr'
                            exact ⟨some r, es', hK, by simp, fun e => absurd e (by rw [hlen]; omega)⟩⟩)
                          (fun st => ⟨nofun, fun r' hr' => by
                            cases hr'
                            refine ⟨hsall, _, ct, hset, by rw [hsz2, hlen]; exact hfit, fun j m hj hm => ?_⟩
                            rw [getD_splice _ _ _ _ (by simp [hccn.1]; omega)]
                            simp only [Array.length_toList, hccn.1]
                            by_cases hjl : j < es'.length
                            · have e1 : (es' ++ xs)[j] = es'[j] := List.getElem_append_left hjl
                              have hm' : m < es'[j].cells.length := by rw [e1] at hm; exact hm
                              have hm2 : m < sz := by rw [← q1 _ (List.getElem_mem hjl)]; exact hm'
                              have : (j + 1) * sz ≤ es'.length * sz := Nat.mul_le_mul_right _ hjl
                              rw [Nat.add_mul, Nat.one_mul] at this
                              rw [if_neg (by omega)]
                              simp only [e1]
                              have hg : c.toList.getD (j * sz + m) undef = c.getD (j * sz + m) undef := by simp [Array.getD_eq_getD_getElem?]
                              rw [hg]
                              exact (q4 j m hjl hm').mono st
                            · have hj' : j - es'.length < xs.length := by simp at hj; omega
                              have e1 : (es' ++ xs)[j] = xs[j - es'.length] := List.getElem_append_right (by omega)
                              have hm' : m < xs[j - es'.length].cells.length := by rw [e1] at hm; exact hm
                              have hm2 : m < sz := by rw [← hsx _ (List.getElem_mem hj')]; exact hm'
                              have hlt : (j - es'.length) * sz + m < xs.length * sz := by
                                have : (j - es'.length + 1) * sz ≤ xs.length * sz := Nat.mul_le_mul_right _ hj'
                                rw [Nat.add_mul, Nat.one_mul] at this
                                omega
                              have e2 : j * sz = es'.length * sz + (j - es'.length) * sz := by
                                rw [← Nat.add_mul]; congr 1; omega
                              rw [if_pos (by omega)]
                              simp only [e1]
                              have e3 : j * sz + m - es'.length * sz = (j - es'.length) * sz + m := by omega
                              rw [e3]
                              have := (hccn.2 _ m hj' hm').mono st
                              simpa [Array.getD_eq_getD_getElem?] using this⟩)
                        refine ⟨.slice (some ⟨r, 0, none⟩) (es'.length + xs.length) pc, W, _, _, ?_, ⟨?_, s2, s1, s3, ?_⟩⟩
                        · simp only [Builtin.append_, List.getElem?_toArray, List.getElem?_cons_zero, List.getElem?_cons_succ, Sem.run_bind, run_underlying hu, Result.andThen_ok, hsize, Sem.run_pure, lenOf_slice]
                          simp only [Bool.false_eq_true, if_false, lenOf_slice, Result.andThen_ok, Sem.run_bind, Sem.run_pure, Bool.not_false, if_true]
                          rw [if_pos hroom]
                          simp only [Sem.run_bind, hcn w rfl, Result.andThen_ok, Addr.add_lit, Nat.zero_add, hst, Sem.run_pure]
                        · rw [← hlen]
                          exact rel_slice_new (.inl hUk) (KMap.put_same _ _ _) (by rw [hlen]; exact hroom) fun c' e' fr' hc' => by
                            rw [hset] at hc'
                            cases hc'
                            rw [hsz2]
                            exact hcs
                        · rintro k' (h | rfl)
                          · exact .inl h
                          · exact .inl hUk
                    · obtain ⟨cp, rest, g1, g2, g3⟩ := grow (by omega)
                      obtain ⟨k1, k2⟩ := cells_append (r := rest) hse hsx hcco hccn
                      have hnewb : (w.drew.alloc (.cells (co ++ cn ++ rest) e)).heap[w.heap.size]? = some (.cells (co ++ cn ++ rest) e) := by
                        show (w.heap.push _)[w.heap.size]? = _
                        simp
                      have holdb : ∀ r, r < w.heap.size → (w.drew.alloc (.cells (co ++ cn ++ rest) e)).heap[r]? = w.heap[r]? := fun r hr => by
                        show (w.heap.push _)[r]? = _
                        rw [Array.getElem?_push, if_neg (by omega)]
                      have hcs : cp * sz ≤ (co ++ cn ++ rest).size := by
                        have : cp * sz = (es'.length + xs.length) * sz + (cp - (es'.length + xs.length)) * sz := by rw [← Nat.add_mul]; congr 1; omega
                        simp only [Array.size_append, g2, hcco.1, hccn.1]
                        rw [Nat.add_mul] at this
                        omega
                      obtain ⟨s1, s2, s3⟩ := hs.change (w' := w.drew.alloc (.cells (co ++ cn ++ rest) e)) k (some w.heap.size) (.row sz (es' ++ xs)) rfl rfl rfl (by simp)
                        (fun r' hr' _ => holdb r' hr') (fun r' hr' => by cases hr'; exact .inl (Nat.le_refl _))
                        (fun _ => ⟨nofun, fun r' hr' => by
                          cases hr'
                          exact ⟨ro, es', hK, by simp, fun e => absurd e (by rw [hlen]; omega)⟩⟩)
                        (fun st => ⟨nofun, fun r' hr' => by
                          cases hr'
                          exact ⟨hsall, _, e, hnewb, k1, fun j m hj hm => (k2 j m hj hm).mono st⟩⟩)
                      refine ⟨_, _, _, _, g3, ⟨?_, s2, s1, s3, ?_⟩⟩
                      · rw [← hlen]
                        exact rel_slice_new (.inl hUk) (KMap.put_same _ _ _) (by rw [hlen]; exact g1) fun c' e' fr' hc' => by
                          rw [hnewb] at hc'
                          cases hc'
                          exact hcs
                      · rintro k' (h | rfl)
                        · exact .inl h
                        · exact .inl hUk
                · cases h
              · cases h
            · rename_i k ep n' lo hi
              split at h
              · rename_i sz rs hf
                split at h
                · rename_i hc2
                  obtain ⟨rfl, hone, hroom⟩ := hc2
                  clear grow
                  simp only [Option.some.injEq, Prod.mk.injEq] at h
                  obtain ⟨rfl, rfl⟩ := h
                  have hes2 : rs.length = n' ∧ sz = ep ∧ (rs.take hi).drop lo = es := by
                    simp only [pelems, hf] at hes
                    split at hes
                    · rename_i hl
                      simp only [Option.some.injEq] at hes
                      exact ⟨hl.1, hl.2, hes⟩
                    · cases hes
                  obtain ⟨rfl, rfl, rfl⟩ := hes2
                  have hw : pwin S sz (.part k sz rs.length lo hi) = some (k, lo, hi, rs) := by simp [pwin, hf]
                  obtain ⟨_, hlh, hhn, hU, ro, a, cp, hK, hv, hno, hso⟩ := pwin_val hs hw hp
                  have hlen2 : ((rs.take hi).drop lo).length = hi - lo := by simp; omega
                  injection hv with e1 e2 e3
                  subst e1 e3
                  obtain ⟨b1, b2, i, d', hi', _, _, _, b3, b4⟩ := tyOf_info hte
                  have hisz : i.size = sz := by rw [b3, ← b1, hesz]
                  have hsize : ∀ w : World, (sizeOf e).run P w = .ok sz w := fun w => by simp [sizeOf, run_typeInfo_of hi', hisz]
                  have hcpx : hi - lo + xs.length ≤ pc := by
                    cases ro with
                    | none => obtain ⟨_, h2⟩ := hno rfl; omega
                    | some r => obtain ⟨h1, _⟩ := hso r rfl; omega
                  have hroom2 : ((rs.take hi).drop lo).length + xs.length ≤ pc := by omega
                  -- the value is told over the new row
                  have told : ∀ {w' : World} {K' : KMap} {U' : Key → Prop}, Rel w' K' U' F (.part k sz rs.length lo hi) (.slice pa ((rs.take hi).drop lo).length pc) → (∀ sz' es', K' k = some (none, .row sz' es') → xs = []) →
                      Rel w' K' U' F (.part k sz rs.length lo (hi + xs.length)) (.slice pa (((rs.take hi).drop lo).length + xs.length) pc) := by
                    intro w' K' U' hr hx
                    cases hr with
                    | part _ _ _ _ _ _ _ _ hu' h1' h2' h3' h4' =>
                    refine .part k sz rs.length lo (hi + xs.length) _ _ _ hu' (by omega) hroom (fun sz' es' hk => ?_) (fun r sz' es' hk => ?_)
                    · have := hx sz' es' hk
                      subst this
                      exact h3' sz' es' hk
                    · obtain ⟨g1, g2⟩ := h4' r sz' es' hk
                      refine ⟨g1, fun e => ?_⟩
                      obtain ⟨g3, g4, g5, g6⟩ := g2 e
                      exact ⟨by omega, g4, g5, g6⟩
                  by_cases hx0 : xs = []
                  · subst hx0
                    have hcn0 : cn = #[] := by
                      have := hccn.1
                      simp at this
                      exact this
                    subst hcn0
                    have hsim : Sim w K U F (St.apply S [(k, some (.row sz (rs.take hi ++ [] ++ rs.drop (hi + ([] : List PV).length))))]) := hs.congr fun k' => by
                      simp only [St.apply, St.find_set, List.append_nil, List.length_nil, Nat.add_zero, List.take_append_drop]
                      split
                      · rename_i e; subst e; exact hf.symm
                      · rfl
                    refine ⟨.slice pa (((rs.take hi).drop lo).length + ([] : List PV).length) pc, w, K, U, ?_, After.refl hsim (told hp fun _ _ _ => rfl)⟩
                    have hcn' := hcn w rfl
                    simp only [Builtin.append_, List.getElem?_toArray, List.getElem?_cons_zero, List.getElem?_cons_succ, Sem.run_bind, run_underlying hu, Result.andThen_ok, hsize, Sem.run_pure, lenOf_slice]
                    simp only [Bool.false_eq_true, if_false, lenOf_slice, Result.andThen_ok, Sem.run_bind, Sem.run_pure, Bool.not_false, if_true]
                    rw [if_pos hroom2]
                    simp only [Sem.run_bind, hcn', Result.andThen_ok]
                    cases pa <;> simp [storeCells]
                  · have hxpos : 0 < xs.length := List.length_pos_iff.2 hx0
                    cases ro with
                    | none => obtain ⟨_, h2⟩ := hno rfl; omega
                    | some r =>
                      obtain ⟨g1, g2, g3⟩ := hso r rfl
                      have hpa := g2 (by omega)
                      subst hpa
                      obtain ⟨W, K', U', hst, hAf, hUo⟩ := splice_row (P := P) (lo := hi) hs hK hccn hsx hone hpos hroom
                      have hK'k : ∀ sz' es', K' k ≠ some (none, .row sz' es') := by
                        intro sz' es' hk
                        have h1 := hAf.sim.key k
                        rw [hk, St.find_set, if_pos rfl] at h1
                        simp only [Option.map_some, Option.some.injEq, Ob.row.injEq] at h1
                        obtain ⟨_, h1⟩ := h1
                        have h2 := hAf.sim.row0 k _ _ hk
                        rw [h2] at h1
                        have := congrArg List.length h1
                        simp at this
                        omega
                      refine ⟨.slice (some ⟨r, lo * sz, none⟩) (((rs.take hi).drop lo).length + xs.length) pc, W, K', U', ?_, ⟨told (hp.mono hAf.step) fun sz' es' hk => absurd hk (hK'k _ _), hAf.sim, hAf.step, hAf.fr, fun k' hk' => .inl (hUo k' hk')⟩⟩
                      · simp only [Builtin.append_, List.getElem?_toArray, List.getElem?_cons_zero, List.getElem?_cons_succ, Sem.run_bind, run_underlying hu, Result.andThen_ok, hsize, Sem.run_pure, lenOf_slice]
                        simp only [Bool.false_eq_true, if_false, lenOf_slice, Result.andThen_ok, Sem.run_bind, Sem.run_pure, Bool.not_false, if_true]
                        rw [if_pos hroom2]
                        have hadd : (⟨r, lo * sz, none⟩ : Addr).add (((rs.take hi).drop lo).length * sz) = ⟨r, hi * sz, none⟩ := by
                          rw [Addr.add_lit, ← Nat.add_mul, hlen2]
                          congr 2
                          omega
                        simp only [Sem.run_bind, hcn w rfl, Result.andThen_ok, hadd, hst, Sem.run_pure]
                · cases h
              · cases h
            · cases h
          · cases h
        · cases h
      · cases h
    · cases h
  · cases h
end
end Go.Pv

set_option linter.unusedVariables false
set_option linter.unusedSimpArgs false
namespace Go.Pv
open Go

/-! ### copy, clear, maps -/

/-- copy -/
def pcopy (P : Program) (S : St) (t : TypeId) (p q : PV) : Option (PV × Ups) :=
  match tyOf P t with
  | some ty => match ty.kind with
    | .slice esz _ _ => match pwin S esz p, pelems S q with
      | some (k, lo, hi, es), some xs =>
        if 0 < esz ∧ (∀ x ∈ xs, x.cells.length = esz) ∧ (∀ x ∈ xs, ∀ c ∈ x.cells, c.one = true) then
          some (.int .i64 (min xs.length (hi - lo) : Nat), [(k, some (.row esz (es.take lo ++ xs.take (min xs.length (hi - lo)) ++ es.drop (lo + min xs.length (hi - lo)))))]) else none
      | _, _ => none
    | _ => none
  | none => none

/-- clear -/
def pclear (P : Program) (S : St) (t : TypeId) (p : PV) : Option (PV × Ups) :=
  match tyOf P t with
  | some ty => match ty.kind with
    | .map _ _ => match p with
      | .nilMap => some (.undef, [])
      | .map k => match S.find k with
        | some (.mp _) => some (.undef, [(k, some (.mp []))])
        | _ => none
      | _ => none
    | .slice esz _ e => match tyOf P e with
      | some te => match te.zero, pwin S esz p with
        | some z, some (k, lo, hi, es) =>
          if z.known = true ∧ z.cells.length = esz ∧ 0 < esz ∧ z.cells.all PV.one = true then
            some (.undef, [(k, some (.row esz (es.take lo ++ List.replicate (hi - lo) z ++ es.drop hi)))]) else none
        | _, _ => none
      | none => none
    | _ => none
  | none => none

/-- Are all fields of a struct plain? -/
def keyFs (P : Program) (t : TypeId) : Bool :=
  match P.underlying t with
  | some (.struct fs) => fs.toList.all fun f => match P.underlying f.type with
    | some (.int _) | some .string | some .bool => true
    | _ => false
  | _ => false

/-- May a key be hashed? -/
def keyOk (P : Program) (t : TypeId) (key : PV) : Bool :=
  match tyOf P t with
  | some ty => match ty.kind with
    | .int _ | .str | .bool => true
    | .struct fs => match key with
      | .agg cs => keyFs P t && fs.all fun f => decide (f.1 < cs.length)
      | _ => false
    | _ => false
  | none => false

/-- What a map has at a key. -/
def pfind (P : Program) (kt : TypeId) (key : PV) : List (PV × PV) → Option (Option PV)
  | [] => some none
  | (k, v) :: r => match pEqT P kt key k with
    | some true => some (some v)
    | some false => pfind P kt key r
    | none => none

def pentries (S : St) : PV → Option (List (PV × PV))
  | .nilMap => some []
  | .map k => match S.find k with
    | some (.mp es) => some es
    | _ => none
  | _ => none

def plookup (P : Program) (S : St) (t : TypeId) (p key : PV) (ok : Bool) : Option PV :=
  match tyOf P t with
  | some ty => match ty.kind with
    | .map kt et => match pentries S p, tyOf P et with
      | some es, some te => match te.zero, pfind P kt key es with
        | some z, some r => if keyOk P kt key = true then some (if ok then .tup [r.getD z, .bool r.isSome] else r.getD z) else none
        | _, _ => none
      | _, _ => none
    | _ => none
  | none => none

/-- A new entry of a map. -/
def pupdate (P : Program) (S : St) (t : TypeId) (p key val : PV) : Option (PV × Ups) :=
  match tyOf P t, p with
  | some ty, .map k => match ty.kind with
    | .map kt _ => match S.find k with
      | some (.mp es) => match pfind P kt key es with
        | some none => if keyOk P kt key = true then some (.undef, [(k, some (.mp (es ++ [(key, val)])))]) else none
        | _ => none
      | _ => none
    | _ => none
  | _, _ => none

section
variable {P : Program} {w : World} {K : KMap} {U : Key → Prop} {F : Nat → Prop} {S : St}

theorem run_getMap {r : Nat} {es : Array MapEntry} {clock : Nat} (hb : w.heap[r]? = some (.map es clock)) : (getObj r).run P w = .ok (.map es clock) w := by
  simp [getObj, Sem.run, hb]

theorem run_setMap {r : Nat} {es : Array MapEntry} {clock : Nat} (o : Obj) (hb : w.heap[r]? = some (.map es clock)) : (setObj r o).run P w = .ok () { w with heap := w.heap.setIfInBounds r o } := by
  simp [setObj, Sem.run, hb]

theorem lenOf_src {p : PV} {v : Value} {a : Option Addr} {n c : Nat} (h : v = .slice a n c) (w : World) : (Builtin.lenOf v).run P w = .ok n w := by subst h; rfl

theorem After.widen {A B : Key} {v : PV} {S' : St} {u : Value} {w' : World} {K' : KMap} {U' : Key → Prop} (h : After w K U F A v S' u w' K' U') (hU : ∀ k, U' k → U k) {v' : PV} {u' : Value} (hr : Rel w' K' U' F v' u') : After w K U F B v' S' u' w' K' U' :=
  ⟨hr, h.sim, h.step, h.fr, fun k hk => .inl (hU k hk)⟩

theorem run_copy_op {A : Key} {t : TypeId} {p q : PV} {u v : Value} {r : PV} {ups : Ups} (rt t' : TypeId) (hs : Sim w K U F S) (hp : Rel w K U F p u) (hq : Rel w K U F q v) (h : pcopy P S t p q = some (r, ups)) :
    ∃ u' w' K' U', (Builtin.copy_ #[t, t'] rt #[u, v]).run P w = .ok u' w' ∧ After w K U F A r (S.apply ups) u' w' K' U' := by
  unfold pcopy at h
  split at h
  · rename_i ty hty
    split at h
    · rename_i esz eb e hk
      split at h
      · rename_i k lo hi es xs hw hxs
        split at h
        · rename_i hc
          obtain ⟨hpos, hsx, hone⟩ := hc
          simp only [Option.some.injEq, Prod.mk.injEq] at h
          obtain ⟨rfl, rfl⟩ := h
          obtain ⟨hf, hlh, hhn, hU, ro, a, cp, hK, rfl, hno, hso⟩ := pwin_val hs hw hp
          obtain ⟨qa, qc, rfl, hqle, hsrc⟩ := pelems_srcN (P := P) hs hxs hq hsx
          obtain ⟨cn, hcn, hccn⟩ := hsrc (min xs.length (hi - lo)) (Nat.min_le_left _ _)
          obtain ⟨hu, hesz, _, d, hd⟩ := slice_of hty hk
          obtain ⟨i, hi'⟩ := info_of_underlying hd
          have hsze : (sizeOf e).run P w = .ok esz w := by rw [hesz]; simp [sizeOf, run_typeInfo_of hi', Program.cellsOf, hi']
          have hn : Nat.min xs.length (hi - lo) = min xs.length (hi - lo) := rfl
          have hlen : (xs.take (min xs.length (hi - lo))).length = min xs.length (hi - lo) := by simp
          generalize hm : min xs.length (hi - lo) = m at *
          have hmle : m ≤ hi - lo := by omega
          by_cases h0 : m = 0
          · subst h0
            have hcn0 : cn = #[] := by
              have := hccn.1
              simp at this
              exact this
            subst hcn0
            have hsim : Sim w K U F (St.apply S [(k, some (.row esz (es.take lo ++ xs.take 0 ++ es.drop (lo + 0))))]) := hs.congr fun k' => by
              simp only [St.apply, St.find_set, List.take_zero, List.append_nil, Nat.add_zero, List.take_append_drop]
              split
              · rename_i e; subst e; exact hf.symm
              · rfl
            refine ⟨.int .i64 (0 : Nat), w, K, U, ?_, After.refl hsim (.int _ _)⟩
            have := hcn w rfl
            cases a <;> simp [Builtin.copy_, run_underlying hu, Builtin.lenOf, hsze, hn, this, storeCells, goInt]
          · cases ro with
            | none => obtain ⟨_, h2⟩ := hno rfl; omega
            | some r =>
              obtain ⟨g1, g2, g3⟩ := hso r rfl
              have ha := g2 (by omega)
              subst ha
              obtain ⟨W, K', U', hst, hAf, hUo⟩ := splice_row (P := P) (lo := lo) hs hK hccn (fun x hx => hsx x (List.mem_of_mem_take hx)) (fun x hx => hone x (List.mem_of_mem_take hx)) hpos (by rw [hlen]; omega)
              rw [hlen] at hAf
              refine ⟨.int .i64 m, W, K', U', ?_, hAf.widen hUo (.int _ _)⟩
              have := hcn w rfl
              simp [Builtin.copy_, run_underlying hu, Builtin.lenOf, hsze, hn, this, hst, goInt]
        · cases h
      · cases h
    · cases h
  · cases h

theorem turn_map (hs : Sim w K U F S) {k : Key} {r : Nat} {es es' : List (PV × PV)} {ms ms' : Array MapEntry} {clock clock' : Nat} (hK : K k = some (some r, .mp es)) (hb : w.heap[r]? = some (.map ms clock)) (hl : es'.length = ms'.size)
    (hc : ∀ i, (hi : i < es'.length) → Rel w K U F es'[i].1 (ms'.getD i default).key ∧ Rel w K U F es'[i].2 (ms'.getD i default).val) :
    ∃ K' U', After w K U F k .undef (S.set k (.mp es')) undef { w with heap := w.heap.setIfInBounds r (.map ms' clock') } K' U' ∧ ∀ k', U' k' → U k' := by
  have hUk : U k := hs.used k _ hK
  have hr : r < w.heap.size := (Array.getElem?_eq_some_iff.1 hb).1
  obtain ⟨s1, s2, s3⟩ := hs.change (w' := { w with heap := w.heap.setIfInBounds r (.map ms' clock') }) k (some r) (.mp es') rfl rfl rfl (by simp)
    (fun r' hr' hn => by
      have hne : r ≠ r' := fun e => hn _ (e ▸ hK)
      simp [Array.getElem?_setIfInBounds, hne])
    (fun r' hr' => by cases hr'; exact .inr ⟨_, hK⟩)
    (fun _ r' hr' => by cases hr'; exact ⟨es, hK⟩)
    (fun st => ⟨r, ms', clock', rfl, by simp [Array.getElem?_setIfInBounds, hr], hl, fun i hi => ⟨(hc i hi).1.mono st, (hc i hi).2.mono st⟩⟩)
  refine ⟨_, _, ⟨rel_undef, s2, s1, s3, ?_⟩, ?_⟩
  · rintro k' (h | rfl)
    · exact .inl h
    · exact .inl hUk
  · rintro k' (h | rfl)
    · exact h
    · exact hUk

theorem rel_map_val (hs : Sim w K U F S) {k : Key} {es : List (PV × PV)} {v : Value} (hf : S.find k = some (.mp es)) (hr : Rel w K U F (.map k) v) :
    ∃ r ms clock, v = .map (some r) ∧ K k = some (some r, .mp es) ∧ w.heap[r]? = some (.map ms clock) ∧ es.length = ms.size ∧ ∀ i, (hi : i < es.length) → Rel w K U F es[i].1 (ms.getD i default).key ∧ Rel w K U F es[i].2 (ms.getD i default).val := by
  cases hr with
  | map _ m hu h =>
  obtain ⟨ro, hK⟩ := find_of_K hs hf
  cases ro with
  | none => exact absurd hK (hs.mp0 _ _)
  | some r =>
    obtain ⟨ms, clock, h1, h2, h3⟩ := hs.mp _ _ _ hK
    exact ⟨r, ms, clock, by rw [h r es hK], hK, h1, h2, h3⟩

theorem run_clear_op {A : Key} {t : TypeId} {p : PV} {u : Value} {r : PV} {ups : Ups} (rt : TypeId) (hs : Sim w K U F S) (hp : Rel w K U F p u) (h : pclear P S t p = some (r, ups)) :
    ∃ u' w' K' U', (Builtin.clear_ #[t] rt #[u]).run P w = .ok u' w' ∧ After w K U F A r (S.apply ups) u' w' K' U' := by
  unfold pclear at h
  split at h
  · rename_i ty hty
    obtain ⟨d, hud, hkd⟩ := under_of hty
    split at h
    · rename_i kt et hk
      split at h
      · simp only [Option.some.injEq, Prod.mk.injEq] at h
        obtain ⟨rfl, rfl⟩ := h
        cases hp
        exact ⟨.tuple #[], w, K, U, by simp [Builtin.clear_, run_underlying hud], After.refl hs rel_undef⟩
      · rename_i k
        split at h
        · rename_i es hf
          simp only [Option.some.injEq, Prod.mk.injEq] at h
          obtain ⟨rfl, rfl⟩ := h
          obtain ⟨r, ms, clock, rfl, hK, hb, hl, hc⟩ := rel_map_val hs hf hp
          obtain ⟨K', U', hAf, hUo⟩ := turn_map (es' := []) (ms' := #[]) (clock' := clock) hs hK hb rfl (fun i hi => by simp at hi)
          refine ⟨.tuple #[], _, K', U', ?_, hAf.widen hUo rel_undef⟩
          simp [Builtin.clear_, run_underlying hud, run_getMap hb, run_setMap _ hb]
        · cases h
      · cases h
    · rename_i esz eb e hk
      split at h
      · rename_i te hte
        split at h
        · rename_i z k lo hi es hz hw
          split at h
          · rename_i hc
            obtain ⟨hzk, hzl, hpos, hone⟩ := hc
            simp only [Option.some.injEq, Prod.mk.injEq] at h
            obtain ⟨rfl, rfl⟩ := h
            obtain ⟨hf, hlh, hhn, hU, ro, a, cp, hK, rfl, hno, hso⟩ := pwin_val hs hw hp
            obtain ⟨hu, hesz, _, d, hd⟩ := slice_of hty hk
            obtain ⟨zv, hzv, hzz⟩ := zero_of hte hz w
            by_cases h0 : hi - lo = 0
            · have hsim : Sim w K U F (St.apply S [(k, some (.row esz (es.take lo ++ List.replicate (hi - lo) z ++ es.drop hi)))]) := hs.congr fun k' => by
                have : hi = lo := by omega
                subst this
                simp only [St.apply, St.find_set, h0, List.replicate_zero, List.append_nil, List.take_append_drop]
                split
                · rename_i e; subst e; exact hf.symm
                · rfl
              refine ⟨.tuple #[], w, K, U, ?_, After.refl hsim rel_undef⟩
              rw [h0]
              cases a <;> simp [Builtin.clear_, run_underlying hu]
            · cases ro with
              | none => obtain ⟨_, h2⟩ := hno rfl; omega
              | some r =>
                obtain ⟨g1, g2, g3⟩ := hso r rfl
                have ha := g2 (by omega)
                subst ha
                obtain ⟨z1, z2⟩ := zero_row (w := w) (K := K) (U := U) (F := F) (hi - lo) esz hzk hzz hzl hpos
                have hzs : zv.cells.size = esz := by
                  have := (known_zero (w := w) (K := K) (U := U) (F := F) hzk hzz).1
                  omega
                have hcc : Cells w K U F esz (List.replicate (hi - lo) z) (Builtin.zeroCells zv.cells (hi - lo)) := by
                  refine ⟨by simp [Builtin.zeroCells, hzs], fun j m hj hm => ?_⟩
                  have e1 : (List.replicate (hi - lo) z)[j] = z := by simp
                  have hm' : m < z.cells.length := by rw [e1] at hm; exact hm
                  have := z2 j m (by simpa using hj) hm'
                  simp only [e1]
                  unfold Builtin.zeroCells
                  rw [hzs]
                  rw [hzs] at this
                  exact this
                obtain ⟨W, K', U', hst, hAf, hUo⟩ := splice_row (P := P) (lo := lo) hs hK hcc (fun x hx => by rw [List.eq_of_mem_replicate hx]; exact hzl) (fun x hx c hc => by
                  rw [List.eq_of_mem_replicate hx] at hc
                  exact List.all_eq_true.1 hone c hc) hpos (by simp; omega)
                have e2 : lo + (List.replicate (hi - lo) z).length = hi := by simp; omega
                rw [e2] at hAf
                refine ⟨.tuple #[], W, K', U', ?_, hAf.widen hUo rel_undef⟩
                obtain ⟨m, hm⟩ : ∃ m, hi - lo = m + 1 := ⟨hi - lo - 1, by omega⟩
                rw [hm] at hst ⊢
                simp [Builtin.clear_, run_underlying hu, hzv, hst]
          · cases h
        · cases h
      · cases h
    · cases h
  · cases h

theorem run_fields {fs : List Field} {cs : Array Value} {b : Bool} {n : Nat} (h : ∀ f ∈ fs, (∃ v, (part f.type cs f.offset).run P w = .ok v w) ∧ ∀ v, (Instr.checkKey b n f.type v).run P w = .ok () w) :
    (forIn (m := Sem) fs PUnit.unit fun f _ => if f.name ≠ "_" then (do let v ← part f.type cs f.offset; Instr.checkKey b n f.type v; pure (ForInStep.yield PUnit.unit)) else pure (ForInStep.yield PUnit.unit)).run P w = .ok PUnit.unit w := by
  induction fs with
  | nil => simp
  | cons f fs ih =>
    obtain ⟨⟨v, h1⟩, h2⟩ := h f (by simp)
    have ih' := ih fun g hg => h g (by simp [hg])
    simp only [List.forIn_cons, Sem.run_bind]
    split
    · simp only [Sem.run_bind, h1, h2, Result.andThen_ok, Sem.run_pure]
      exact ih'
    · simp only [Result.andThen_ok, Sem.run_pure]
      exact ih'

theorem run_checkKey_plain {kt : TypeId} {d : TypeDesc} (hu : P.underlying kt = some d) (hd : (∃ k, d = .int k) ∨ d = .string ∨ d = .bool) (b : Bool) (n : Nat) (v : Value) : (Instr.checkKey b (n + 1) kt v).run P w = .ok () w := by
  rcases hd with ⟨k, rfl⟩ | rfl | rfl <;> simp [Instr.checkKey, run_underlying hu]

theorem run_checkKey {kt : TypeId} {key : PV} {v : Value} (h : keyOk P kt key = true) (hr : Rel w K U F key v) (b : Bool) : (Instr.checkKey b 10000 kt v).run P w = .ok () w := by
  unfold keyOk at h
  split at h
  · rename_i ty hty
    obtain ⟨d, hu, hkd⟩ := under_of hty
    split at h
    · rename_i k hk
      rw [hk] at hkd
      have := int_of hty hk
      exact run_checkKey_plain this (.inl ⟨_, rfl⟩) b 9999 v
    · rename_i hk
      rw [hk] at hkd
      have hd : d = .string := by
        cases d <;> simp only [kindOf, reduceCtorEq] at hkd
        all_goals first | rfl | (split at hkd <;> cases hkd)
      subst hd
      exact run_checkKey_plain hu (.inr (.inl rfl)) b 9999 v
    · rename_i hk
      rw [hk] at hkd
      have hd : d = .bool := by
        cases d <;> simp only [kindOf, reduceCtorEq] at hkd
        all_goals first | rfl | (split at hkd <;> cases hkd)
      subst hd
      exact run_checkKey_plain hu (.inr (.inr rfl)) b 9999 v
    · rename_i fs hk
      split at h
      · rename_i cs
        simp only [Bool.and_eq_true, List.all_eq_true, decide_eq_true_eq] at h
        obtain ⟨h1, h2⟩ := h
        obtain ⟨gs, hgu, hfs, hall⟩ := struct_of hty hk
        cases hr with
        | agg _ a ha hh =>
        have hgo : ∀ f ∈ gs.toList, (∃ x, (part f.type a f.offset).run P w = .ok x w) ∧ ∀ x, (Instr.checkKey b 9999 f.type x).run P w = .ok () w := by
          intro f hf
          unfold keyFs at h1
          rw [hgu] at h1
          simp only [List.all_eq_true] at h1
          have hf1 := h1 f hf
          have hoff : f.offset < a.size := by
            have := h2 (f.offset, P.cellsOf f.type, aggOf P f.type) (by rw [hfs]; exact List.mem_map_of_mem hf)
            rw [← ha]
            exact this
          split at hf1
          · rename_i k hfu
            obtain ⟨i, hi⟩ := info_of_underlying hfu
            refine ⟨⟨a[f.offset], ?_⟩, fun x => run_checkKey_plain hfu (.inl ⟨_, rfl⟩) b 9998 x⟩
            rw [run_part hfu hi]
            simp [aggOf, hfu, hoff]
          · rename_i hfu
            obtain ⟨i, hi⟩ := info_of_underlying hfu
            refine ⟨⟨a[f.offset], ?_⟩, fun x => run_checkKey_plain hfu (.inr (.inl rfl)) b 9998 x⟩
            rw [run_part hfu hi]
            simp [aggOf, hfu, hoff]
          · rename_i hfu
            obtain ⟨i, hi⟩ := info_of_underlying hfu
            refine ⟨⟨a[f.offset], ?_⟩, fun x => run_checkKey_plain hfu (.inr (.inr rfl)) b 9998 x⟩
            rw [run_part hfu hi]
            simp [aggOf, hfu, hoff]
          · cases hf1
        have := run_fields (P := P) (w := w) (cs := a) (b := b) (n := 9999) hgo
        show (Instr.checkKey b (9999 + 1) kt (.agg a)).run P w = _
        generalize (9999 : Nat) = n at this ⊢
        simp only [Instr.checkKey, Sem.run_bind, run_underlying hgu, Result.andThen_ok]
        rw [← Array.forIn_toList]
        simp at this ⊢
        rw [this]
        rfl
      · cases h
    · cases h
  · cases h

theorem pfind_run {kt : TypeId} {key : PV} {kv : Value} (hk : Rel w K U F key kv) : ∀ (es : List (PV × PV)) (ms : List MapEntry) (i0 : Nat) (res : Option PV), es.length = ms.length →
    (∀ i, (hi : i < es.length) → Rel w K U F es[i].1 (ms.getD i default).key ∧ Rel w K U F es[i].2 (ms.getD i default).val) → pfind P kt key es = some res →
    ∃ o, (Instr.findAsking kt kv ms i0).run P w = .ok o w ∧ (res = none → o = none) ∧ ∀ v, res = some v → ∃ i val, o = some (i, val) ∧ Rel w K U F v val
  | [], [], i0, res, _, _, h => by
    simp only [pfind, Option.some.injEq] at h
    subst h
    exact ⟨none, by simp [Instr.findAsking], fun _ => rfl, nofun⟩
  | [], m :: ms, _, _, hl, _, _ => by simp at hl
  | e :: es, [], _, _, hl, _, _ => by simp at hl
  | (k, v) :: es, m :: ms, i0, res, hl, hc, h => by
    obtain ⟨c1, c2⟩ := hc 0 (by simp)
    simp only [List.getElem_cons_zero, List.getD_cons_zero] at c1 c2
    simp only [pfind] at h
    split at h
    · rename_i he
      simp only [Option.some.injEq] at h
      subst h
      obtain ⟨q1, _⟩ := run_equal_of he hk c1 w
      exact ⟨some (i0, m.val), by simp [Instr.findAsking, q1], nofun, fun v' hv => by cases hv; exact ⟨_, _, rfl, c2⟩⟩
    · rename_i he
      obtain ⟨q1, _⟩ := run_equal_of he hk c1 w
      obtain ⟨o, h1, h2, h3⟩ := pfind_run hk es ms (i0 + 1) res (by simpa using hl) (fun i hi => by
        have := hc (i + 1) (by simpa using hi)
        simpa using this) h
      exact ⟨o, by simp [Instr.findAsking, q1, h1], h2, h3⟩
    · cases h

theorem sameNow_run {kt : TypeId} {d : TypeDesc} (hu : P.underlying kt = some d) {x y : Value} {b : Bool} (h : Instr.sameNow d x y = some b) : (Op.equal kt x y).run P w = .ok b w := by
  show (Op.equalIn (9999 + 1) kt x y).run P w = _
  generalize (9999 : Nat) = n
  unfold Instr.sameNow at h
  split at h
  · split at h
    · rename_i hk
      simp only [Option.some.injEq] at h
      subst h
      subst hk
      simp [Op.equalIn, run_underlying hu]
    · cases h
  · simp only [Option.some.injEq] at h
    subst h
    simp [Op.equalIn, run_underlying hu]
  · simp only [Option.some.injEq] at h
    subst h
    simp [Op.equalIn, run_underlying hu]
  · cases h

theorem findNow_run {kt : TypeId} {d : TypeDesc} (hu : P.underlying kt = some d) {x : Value} : ∀ (ms : List MapEntry) (i : Nat) (r : Option (Nat × Value)), Instr.findNow d x ms i = some r → (Instr.findAsking kt x ms i).run P w = .ok r w
  | [], i, r, h => by
    simp only [Instr.findNow, Option.some.injEq] at h
    subst h
    simp [Instr.findAsking]
  | m :: ms, i, r, h => by
    simp only [Instr.findNow] at h
    split at h
    · rename_i he
      simp only [Option.some.injEq] at h
      subst h
      simp [Instr.findAsking, sameNow_run (w := w) hu he]
    · rename_i he
      simp [Instr.findAsking, sameNow_run (w := w) hu he, findNow_run hu ms (i + 1) r h]
    · cases h

theorem run_findKey {kt : TypeId} {d : TypeDesc} (hu : P.underlying kt = some d) {x : Value} {ms : List MapEntry} {r : Option (Nat × Value)} (h : (Instr.findAsking kt x ms 0).run P w = .ok r w) : (Instr.findKey kt x ms).run P w = .ok r w := by
  simp only [Instr.findKey, Sem.run_bind, run_underlying hu, Result.andThen_ok]
  split
  · rename_i r' hr
    have := findNow_run (w := w) hu ms 0 r' hr
    rw [this] at h
    cases h
    rfl
  · exact h

theorem map_of {t : TypeId} {ty : TyI} {kt et : Nat} (h : tyOf P t = some ty) (hk : ty.kind = .map kt et) : P.underlying t = some (.map kt et) := by
  obtain ⟨d, hu, hkd⟩ := under_of h
  rw [hk] at hkd
  cases d <;> simp only [kindOf, reduceCtorEq, TK.map.injEq] at hkd
  all_goals first
    | (split at hkd <;> cases hkd; done)
    | (obtain ⟨rfl, rfl⟩ := hkd; exact hu)

theorem pentries_val (hs : Sim w K U F S) {p : PV} {v : Value} {es : List (PV × PV)} (h : pentries S p = some es) (hr : Rel w K U F p v) :
    ∃ ms : Array MapEntry, es.length = ms.size ∧ (∀ i, (hi : i < es.length) → Rel w K U F es[i].1 (ms.getD i default).key ∧ Rel w K U F es[i].2 (ms.getD i default).val) ∧
      ((v = .map none ∧ ms = #[]) ∨ ∃ r clock, v = .map (some r) ∧ w.heap[r]? = some (.map ms clock)) := by
  unfold pentries at h
  split at h
  · cases h
    cases hr
    exact ⟨#[], rfl, fun i hi => by simp at hi, .inl ⟨rfl, rfl⟩⟩
  · rename_i k
    split at h
    · rename_i es' hf
      cases h
      obtain ⟨r, ms, clock, rfl, hK, hb, hl, hc⟩ := rel_map_val hs hf hr
      exact ⟨ms, hl, hc, .inr ⟨r, clock, rfl, hb⟩⟩
    · cases h
  · cases h

theorem keyOk_under {kt : TypeId} {key : PV} (h : keyOk P kt key = true) : ∃ d, P.underlying kt = some d := by
  unfold keyOk at h
  split at h
  · rename_i ty hty
    obtain ⟨d, hu, _⟩ := under_of hty
    exact ⟨d, hu⟩
  · cases h

theorem run_lookup_op {t : TypeId} {p key : PV} {u v : Value} {ok : Bool} {r : PV} (hs : Sim w K U F S) (hp : Rel w K U F p u) (hk : Rel w K U F key v) (h : plookup P S t p key ok = some r) :
    ∃ z, (Instr.lookup t u v ok).run P w = .ok z w ∧ Rel w K U F r z := by
  unfold plookup at h
  split at h
  · rename_i ty hty
    split at h
    · rename_i kt et hkd
      have hu := map_of hty hkd
      split at h
      · rename_i es te hes hte
        split at h
        · rename_i z res hz hres
          split at h
          · rename_i hko
            simp only [Option.some.injEq] at h
            subst h
            obtain ⟨ms, hl, hc, hv⟩ := pentries_val hs hes hp
            obtain ⟨zv, hzv, hzz⟩ := zero_of hte hz w
            obtain ⟨d, hkt⟩ := keyOk_under hko
            obtain ⟨o, h1, h2, h3⟩ := pfind_run (P := P) hk es ms.toList 0 res (by simpa using hl) (fun i hi => by
              have := hc i hi
              simpa [Array.getD_eq_getD_getElem?, List.getD_eq_getElem?_getD] using this) hres
            have hfk := run_findKey (w := w) hkt h1
            have hck := run_checkKey (P := P) hko hk
            have hzr : Rel w K U F z zv := by rw [hzz]; exact rel_toPV zv
            have body : ∀ (e : Sem Value), e = (do
                let (v', ok') ← match ← Instr.findKey kt v ms.toList with
                  | some (_, v) => pure (v, true)
                  | none => pure (← zeroValue et, false)
                pure (if ok then .tuple #[v', .bool ok'] else v')) → ∃ zz, e.run P w = .ok zz w ∧ Rel w K U F (if ok then .tup [res.getD z, .bool res.isSome] else res.getD z) zz := by
              intro e he
              subst he
              have two : ∀ (p : PV) (x : Value) (b : Bool), Rel w K U F p x → Rel w K U F (.tup [p, .bool b]) (.tuple #[x, .bool b]) := by
                intro p x b hr
                refine .tup _ _ rfl fun i hi => ?_
                match i with
                | 0 => exact hr
                | 1 => exact .bool b
              cases res with
              | none =>
                have := h2 rfl
                subst this
                simp only [Sem.run_bind, hfk, Result.andThen_ok, hzv, Sem.run_pure]
                cases ok
                · exact ⟨_, rfl, hzr⟩
                · exact ⟨_, rfl, two _ _ _ hzr⟩
              | some rv =>
                obtain ⟨i, val, rfl, hr⟩ := h3 rv rfl
                simp only [Sem.run_bind, hfk, Result.andThen_ok, Sem.run_pure]
                cases ok
                · exact ⟨_, rfl, hr⟩
                · exact ⟨_, rfl, two _ _ _ hr⟩
            rcases hv with ⟨rfl, rfl⟩ | ⟨r, clock, rfl, hb⟩
            · obtain ⟨zz, e1, e2⟩ := body _ rfl
              refine ⟨zz, ?_, e2⟩
              simp only [Instr.lookup, Sem.run_bind, run_underlying hu, Result.andThen_ok, Sem.run_pure, hck]
              simp only [Sem.run_bind] at e1
              exact e1
            · obtain ⟨zz, e1, e2⟩ := body _ rfl
              refine ⟨zz, ?_, e2⟩
              simp only [Instr.lookup, Sem.run_bind, run_underlying hu, Result.andThen_ok, Sem.run_pure, hck, run_getMap hb]
              simp only [Sem.run_bind] at e1
              exact e1
          · cases h
        · cases h
      · cases h
    · cases h
  · cases h

theorem run_update_op {A : Key} {t : TypeId} {p key val : PV} {u v x : Value} {r : PV} {ups : Ups} (hs : Sim w K U F S) (hp : Rel w K U F p u) (hk : Rel w K U F key v) (hx : Rel w K U F val x) (h : pupdate P S t p key val = some (r, ups)) :
    ∃ w' K' U', (Instr.mapUpdate t u v x).run P w = .ok () w' ∧ After w K U F A r (S.apply ups) undef w' K' U' := by
  unfold pupdate at h
  split at h
  · rename_i ty k hty
    split at h
    · rename_i kt et hkd
      have hu := map_of hty hkd
      split at h
      · rename_i es hf
        split at h
        rename_i hres
        split at h
        · rename_i hko
          simp only [Option.some.injEq, Prod.mk.injEq] at h
          obtain ⟨rfl, rfl⟩ := h
          obtain ⟨r, ms, clock, rfl, hK, hb, hl, hc⟩ := rel_map_val hs hf hp
          obtain ⟨d, hkt⟩ := keyOk_under hko
          obtain ⟨o, h1, h2, h3⟩ := pfind_run (P := P) hk es ms.toList 0 none (by simpa using hl) (fun i hi => by
            have := hc i hi
            simpa [Array.getD_eq_getD_getElem?, List.getD_eq_getElem?_getD] using this) hres
          have := h2 rfl
          subst this
          have hfk := run_findKey (w := w) hkt h1
          have hck := run_checkKey (P := P) hko hk
          obtain ⟨K', U', hAf, hUo⟩ := turn_map (es' := es ++ [(key, val)]) (ms' := ms.push { key := v, val := x, born := clock }) (clock' := clock + 1) hs hK hb (by simp [hl]) (fun i hi => by
            by_cases hlt : i < es.length
            · have e1 : (es ++ [(key, val)])[i] = es[i] := List.getElem_append_left hlt
              rw [e1]
              have := hc i hlt
              have hlt2 : i < ms.size := by omega
              have hne : i ≠ ms.size := by omega
              simpa [Array.getD_eq_getD_getElem?, Array.getElem?_push, hne] using this
            · have e0 : i = es.length := by simp at hi; omega
              subst e0
              have e1 : (es ++ [(key, val)])[es.length] = (key, val) := by simp
              rw [e1]
              have : (ms.push { key := v, val := x, born := clock }).getD es.length default = { key := v, val := x, born := clock } := by
                rw [hl]; simp [Array.getD_eq_getD_getElem?]
              rw [this]
              exact ⟨hk, hx⟩)
          refine ⟨_, K', U', ?_, hAf.widen hUo rel_undef⟩
          simp [Instr.mapUpdate, run_underlying hu, run_getMap hb, run_setMap _ hb, hfk, hck]
        · cases h
        · cases h
      · cases h
    · cases h
  · cases h

end
end Go.Pv

set_option linter.unusedVariables false
set_option linter.unusedSimpArgs false
namespace Go.Pv
open Go

/-- One operation that is no call of Go's own code: its value, what it does to the store. -/
def pstep (P : Program) (A : Key) (S : St) (env : Env) (op : Op) : Option (PV × Ups) :=
  match op with
  | .alloc t => peff P A S env (.alloc t)
  | .box t x => peff P A S env (.box t x)
  | .buildSlice t n ps => peff P A S env (.buildSlice t n ps)
  | .makeSlice t l c => peff P A S env (.makeSlice t l c)
  | .makeMap t none => peff P A S env (.makeMap t none)
  | .makeMap t (some r) => match tyOf P t, ev env r with
    | some ty, .int _ _ => match ty.kind with
      | .map _ _ => peff P A S env (.makeMap t none)
      | _ => none
    | _, _ => none
  | .store t x y => peff P A S env (.store t x y)
  | .lookup t x i ok => (plookup P S t (ev env x) (ev env i) ok).map (·, [])
  | .mapUpdate t m k x => pupdate P S t (ev env m) (ev env k) (ev env x)
  | .insert t m k x => pupdate P S t (ev env m) (ev env k) (ev env x)
  | .call c => match c.callee with
    | .builtin .append => match c.args.toList, c.argTypes.toList with
      | [x, y], [t, t'] => if t = t' then pappend P A S t (ev env x) (ev env y) else none
      | _, _ => none
    | .builtin .copy => match c.args.toList, c.argTypes.toList with
      | [x, y], [t, _] => pcopy P S t (ev env x) (ev env y)
      | _, _ => none
    | .builtin .clear => match c.args.toList, c.argTypes.toList with
      | [x], [t] => pclear P S t (ev env x)
      | _, _ => none
    | _ => (pval P S env (.call c)).map (·, [])
  | op => (pval P S env op).map (·, [])

section
variable {P : Program} {w : World} {K : KMap} {U : Key → Prop} {F : Nat → Prop} {S : St}

/-- What an operation comes to. -/
def OpRun (P : Program) (o : Oper) (a : Act) (w : World) (u : Value) (w' : World) : Prop :=
  (execOp a.eval o).run P w = .ok (.value u) w' ∨ ((execOp a.eval o).run P w = .ok .skip w' ∧ u = undef)

theorem opRun_wp {o : Oper} {a : Act} {u : Value} {w' : World} (h : OpRun P o a w u w') {next : Act → World → Prop} {Q : Exit → Act → World → Prop} (hn : next (a.put o.dst u) w') : Oper.wp P o a w next Q := by
  unfold Oper.wp
  rcases h with h | ⟨h, rfl⟩ <;> rw [h] <;> exact hn

theorem newMap_heap (w : World) : (w.alloc (.map #[] 0)).heap[w.heap.size]? = some (.map #[] 0) := by
  show (w.heap.push _)[w.heap.size]? = _
  simp

theorem newMap (hs : Sim w K U F S) {A : Key} (hA : ¬ U A) : ∃ K' U', After w K U F A (.map A) (S.set A (.mp [])) (.map (some w.heap.size)) (w.alloc (.map #[] 0)) K' U' := by
  have hnew : (w.alloc (.map #[] 0)).heap[w.heap.size]? = some (.map #[] 0) := newMap_heap w
  obtain ⟨h1, h2, h3⟩ := hs.change (w' := w.alloc (.map #[] 0)) A (some w.heap.size) (.mp []) rfl rfl rfl (by simp) (fun r hr _ => by show (w.heap.push _)[r]? = _; rw [Array.getElem?_push, if_neg (by omega)]) (fun r hr => by cases hr; exact .inl (Nat.le_refl _)) (fun hu => absurd hu hA)
    (fun st => ⟨w.heap.size, #[], 0, rfl, hnew, rfl, fun i hi => by simp at hi⟩)
  refine ⟨_, _, ⟨.map A _ (.inr rfl) fun r es hk => ?_, h2, h1, h3, ?_⟩⟩
  · rw [KMap.put_same] at hk
    cases hk
    rfl
  · rintro k (h | rfl)
    · exact .inl h
    · exact .inr (List.suffix_refl _)

theorem pstep_sound {A : Key} {o : Oper} {env : Env} {a : Act} {v : PV} {ups : Ups} (hs : Sim w K U F S) (he : ERel w K U F env a.tmps) (hA : ¬ U A) (h : pstep P A S env o.op = some (v, ups)) :
    ∃ u w' K' U', OpRun P o a w u w' ∧ After w K U F A v (S.apply ups) u w' K' U' := by
  have quiet : (pval P S env o.op).map (·, ([] : Ups)) = some (v, ups) → ∃ u w' K' U', OpRun P o a w u w' ∧ After w K U F A v (S.apply ups) u w' K' U' := by
    intro h
    cases hv : pval P S env o.op with
    | none => rw [hv] at h; cases h
    | some v' =>
      rw [hv] at h
      simp only [Option.map_some, Option.some.injEq, Prod.mk.injEq] at h
      obtain ⟨rfl, rfl⟩ := h
      obtain ⟨u, h1, h2⟩ := pval_sound hs he hv
      exact ⟨u, w, K, U, .inl h1, After.refl hs h2⟩
  cases hop : o.op with
  | alloc t =>
    rw [hop] at h
    simp only [pstep, peff] at h
    split at h
    · rename_i ty hty
      split at h
      · rename_i z hz
        split at h
        · rename_i hk
          simp only [Option.some.injEq, Prod.mk.injEq] at h
          obtain ⟨rfl, rfl⟩ := h
          obtain ⟨zv, hzv, hzz⟩ := zero_of hty hz w
          obtain ⟨K', U', h1, h2⟩ := new_var (P := P) hs hA hk (by rw [hzz]; exact rel_toPV zv) t
          exact ⟨_, _, K', U', .inl (by simp [execOp, hop, Instr.alloc, hzv, h1]), h2⟩
        · cases h
      · cases h
    · cases h
  | box t x =>
    rw [hop] at h
    simp only [pstep, peff] at h
    split at h
    · rename_i hk
      simp only [Option.some.injEq, Prod.mk.injEq] at h
      obtain ⟨rfl, rfl⟩ := h
      obtain ⟨K', U', h1, h2⟩ := new_var (P := P) hs hA hk (rel_ev he x) t
      exact ⟨_, _, K', U', .inl (by simp [execOp, hop, Instr.box, h1]), h2⟩
    · cases h
  | buildSlice t n ps =>
    rw [hop] at h
    obtain ⟨u, w', K', U', h1, h2⟩ := run_buildSlice_op hs he hA h
    exact ⟨u, w', K', U', .inl (by simp [execOp, hop, h1]), h2⟩
  | makeSlice t l c =>
    rw [hop] at h
    obtain ⟨u, w', K', U', h1, h2⟩ := run_makeSlice_op hs he hA h
    exact ⟨u, w', K', U', .inl (by simp [execOp, hop, h1]), h2⟩
  | makeMap t r =>
    rw [hop] at h
    cases r with
    | some r =>
      simp only [pstep] at h
      split at h
      · rename_i ty ki n hty hr
        split at h
        · rename_i kt et hk
          simp only [peff, Option.some.injEq, Prod.mk.injEq] at h
          obtain ⟨rfl, rfl⟩ := h
          obtain ⟨K', U', h2⟩ := newMap hs hA
          have hv := rel_ev he r
          rw [hr] at hv
          have hv := rel_int hv
          exact ⟨_, _, K', U', .inl (by simp [execOp, hop, Instr.makeMap, run_underlying (map_of hty hk), hv, asInt, asIntOf]), h2⟩
        · cases h
      · cases h
    | none =>
      simp only [pstep, peff, Option.some.injEq, Prod.mk.injEq] at h
      obtain ⟨rfl, rfl⟩ := h
      obtain ⟨K', U', h2⟩ := newMap hs hA
      exact ⟨_, _, K', U', .inl (by simp [execOp, hop, Instr.makeMap]), h2⟩
  | lookup t x i ok =>
    rw [hop] at h
    simp only [pstep, Option.map_eq_some_iff, Prod.mk.injEq] at h
    obtain ⟨v', h, rfl, rfl⟩ := h
    obtain ⟨u, h1, h2⟩ := run_lookup_op hs (rel_ev he x) (rel_ev he i) h
    exact ⟨u, w, K, U, .inl (by simp [execOp, hop, h1]), After.refl hs h2⟩
  | mapUpdate t m k x =>
    rw [hop] at h
    simp only [pstep] at h
    obtain ⟨w', K', U', h1, h2⟩ := run_update_op (A := A) hs (rel_ev he m) (rel_ev he k) (rel_ev he x) h
    exact ⟨undef, w', K', U', .inr ⟨by simp [execOp, hop, h1], rfl⟩, h2⟩
  | insert t m k x =>
    rw [hop] at h
    simp only [pstep] at h
    obtain ⟨w', K', U', h1, h2⟩ := run_update_op (A := A) hs (rel_ev he m) (rel_ev he k) (rel_ev he x) h
    exact ⟨undef, w', K', U', .inr ⟨by simp [execOp, hop, h1], rfl⟩, h2⟩
  | store t x y =>
    rw [hop] at h
    obtain ⟨rfl, w', K', U', h1, h2⟩ := run_store_op (A := A) hs he h
    exact ⟨undef, w', K', U', .inr ⟨by simp [execOp, hop, h1], rfl⟩, h2⟩
  | call c =>
    rw [hop] at h quiet
    simp only [pstep] at h
    split at h
    · rename_i hc
      split at h
      · rename_i x y t t' ha ht
        split at h
        · rename_i htt
          subst htt
          obtain ⟨u, w', K', U', h1, h2⟩ := run_append_op o.type hs (rel_ev he x) (rel_ev he y) hA h
          refine ⟨u, w', K', U', .inl ?_, h2⟩
          have e1 : c.args = #[x, y] := by rw [← Array.toList_inj]; exact ha
          have e2 : c.argTypes = #[t, t] := by rw [← Array.toList_inj]; exact ht
          simp [execOp, hop, resolve, hc, invoke, builtin, e1, e2, h1]
        · cases h
      · cases h
    · rename_i hc
      split at h
      · rename_i x y t t' ha ht
        obtain ⟨u, w', K', U', h1, h2⟩ := run_copy_op (A := A) o.type t' hs (rel_ev he x) (rel_ev he y) h
        refine ⟨u, w', K', U', .inl ?_, h2⟩
        have e1 : c.args = #[x, y] := by rw [← Array.toList_inj]; exact ha
        have e2 : c.argTypes = #[t, t'] := by rw [← Array.toList_inj]; exact ht
        simp [execOp, hop, resolve, hc, invoke, builtin, e1, e2, h1]
      · cases h
    · rename_i hc
      split at h
      · rename_i x t ha ht
        obtain ⟨u, w', K', U', h1, h2⟩ := run_clear_op (A := A) o.type hs (rel_ev he x) h
        refine ⟨u, w', K', U', .inl ?_, h2⟩
        have e1 : c.args = #[x] := by rw [← Array.toList_inj]; exact ha
        have e2 : c.argTypes = #[t] := by rw [← Array.toList_inj]; exact ht
        simp [execOp, hop, resolve, hc, invoke, builtin, e1, e2, h1]
      · cases h
    · exact quiet h
  | _ => rw [hop] at h quiet; exact quiet h
end

/-! ### A greater store -/

/-- All that S holds T holds. -/
def Sub (S T : St) : Prop := ∀ k ob, St.find S k = some ob → St.find T k = some ob

theorem Sub.refl (S : St) : Sub S S := fun _ _ h => h

theorem find_apply_congr : ∀ (ups : Ups) (S T : St) (k : Key), St.find S k = St.find T k → St.find (St.apply S ups) k = St.find (St.apply T ups) k
  | [], _, _, _, h => h
  | (k', some o) :: r, S, T, k, h => find_apply_congr r _ _ k (by rw [St.find_set, St.find_set, h])
  | (k', none) :: r, S, T, k, h => find_apply_congr r _ _ k (by rw [St.find_del, St.find_del, h])

theorem Sub.apply {S T : St} (h : Sub S T) (ups : Ups) : Sub (St.apply S ups) (St.apply T ups) := by
  intro k ob hk
  induction ups generalizing S T with
  | nil => exact h k ob hk
  | cons x r ih =>
    obtain ⟨k', o⟩ := x
    cases o with
    | some o =>
      refine ih (S := S.set k' o) (T := T.set k' o) (fun a b hab => ?_) hk
      rw [St.find_set] at hab ⊢
      split at hab
      · rename_i e; rw [if_pos e]; exact hab
      · rename_i e; rw [if_neg e]; exact h a b hab
    | none =>
      refine ih (S := S.del k') (T := T.del k') (fun a b hab => ?_) hk
      rw [St.find_del] at hab ⊢
      split at hab
      · cases hab
      · rename_i e; rw [if_neg e]; exact h a b hab

theorem find_apply_other : ∀ (ups : Ups) (S : St) (k : Key), (∀ x ∈ ups, x.1 ≠ k) → St.find (St.apply S ups) k = St.find S k
  | [], _, _, _ => rfl
  | (k', some o) :: r, S, k, h => by
    rw [St.apply, find_apply_other r _ k (fun x hx => h x (by simp [hx])), St.find_set, if_neg]
    exact fun e => h (k', some o) (by simp) e.symm
  | (k', none) :: r, S, k, h => by
    rw [St.apply, find_apply_other r _ k (fun x hx => h x (by simp [hx])), St.find_del, if_neg]
    exact fun e => h (k', none) (by simp) e.symm

section
variable {P : Program} {S T : St}

theorem pelem_sub (h : Sub S T) {p : PV} {x : PV × Nat} (hp : pelem S p = some x) : pelem T p = some x := by
  unfold pelem at hp ⊢
  split at hp
  · exact hp
  · split at hp
    · rename_i sz es hf
      rw [h _ _ hf]
      exact hp
    · cases hp
  · cases hp

theorem plen_sub (h : Sub S T) {p : PV} {x : Nat} (hp : plen S p = some x) : plen T p = some x := by
  unfold plen at hp ⊢
  split at hp
  · exact hp
  · split at hp
    · rename_i sz es hf
      rw [h _ _ hf]
      exact hp
    · cases hp
  · split at hp
    · rename_i sz es hf
      rw [h _ _ hf]
      exact hp
    · cases hp
  · exact hp
  · cases hp

theorem pelems_sub (h : Sub S T) {p : PV} {x : List PV} (hp : pelems S p = some x) : pelems T p = some x := by
  unfold pelems at hp ⊢
  split at hp
  · exact hp
  · split at hp
    · rename_i sz es hf
      rw [h _ _ hf]
      exact hp
    · cases hp
  · split at hp
    · rename_i sz es hf
      rw [h _ _ hf]
      exact hp
    · cases hp
  · exact hp
  · cases hp

theorem pwin_sub (h : Sub S T) {esz : Nat} {p : PV} {x : Key × Nat × Nat × List PV} (hp : pwin S esz p = some x) : pwin T esz p = some x := by
  unfold pwin at hp ⊢
  split at hp
  · split at hp
    · rename_i sz es hf
      rw [h _ _ hf]
      exact hp
    · cases hp
  · split at hp
    · rename_i sz es hf
      rw [h _ _ hf]
      exact hp
    · cases hp
  · cases hp

theorem pwin_row {esz : Nat} {p : PV} {k : Key} {lo hi : Nat} {es : List PV} (hp : pwin S esz p = some (k, lo, hi, es)) : S.find k = some (.row esz es) := by
  unfold pwin at hp
  split at hp
  · split at hp
    · rename_i sz es hf
      split at hp
      · rename_i hc
        obtain ⟨_, rfl⟩ := hc
        cases hp
        exact hf
      · cases hp
    · cases hp
  · split at hp
    · rename_i sz es hf
      split at hp
      · rename_i hc
        obtain ⟨_, rfl, _⟩ := hc
        cases hp
        exact hf
      · cases hp
    · cases hp
  · cases hp

theorem pentries_sub (h : Sub S T) {p : PV} {x : List (PV × PV)} (hp : pentries S p = some x) : pentries T p = some x := by
  unfold pentries at hp ⊢
  split at hp
  · exact hp
  · split at hp
    · rename_i es hf
      rw [h _ _ hf]
      exact hp
    · cases hp
  · cases hp

theorem pcopy_sub (h : Sub S T) {t : TypeId} {p q : PV} {r : PV × Ups} (hv : pcopy P S t p q = some r) : pcopy P T t p q = some r := by
  unfold pcopy at hv ⊢
  split at hv
  · split at hv
    · split at hv
      · rename_i k lo hi es xs hw hx
        rw [pwin_sub h hw, pelems_sub h hx]
        exact hv
      · cases hv
    · cases hv
  · cases hv

theorem pclear_sub (h : Sub S T) {t : TypeId} {p : PV} {r : PV × Ups} (hv : pclear P S t p = some r) : pclear P T t p = some r := by
  unfold pclear at hv ⊢
  split at hv
  · split at hv
    · split at hv
      · exact hv
      · split at hv
        · rename_i es hf
          rw [h _ _ hf]
          exact hv
        · cases hv
      · cases hv
    · split at hv
      · split at hv
        · rename_i z k lo hi es hz hw
          rw [hz, pwin_sub h hw]
          exact hv
        · cases hv
      · cases hv
    · cases hv
  · cases hv

theorem plookup_sub (h : Sub S T) {t : TypeId} {p k : PV} {ok : Bool} {r : PV} (hv : plookup P S t p k ok = some r) : plookup P T t p k ok = some r := by
  unfold plookup at hv ⊢
  split at hv
  · split at hv
    · split at hv
      · rename_i es te hes hte
        rw [pentries_sub h hes, hte]
        exact hv
      · cases hv
    · cases hv
  · cases hv

theorem pupdate_sub (h : Sub S T) {t : TypeId} {p k v : PV} {r : PV × Ups} (hv : pupdate P S t p k v = some r) : pupdate P T t p k v = some r := by
  unfold pupdate at hv ⊢
  split at hv
  · split at hv
    · split at hv
      · rename_i es hf
        rw [h _ _ hf]
        exact hv
      · cases hv
    · cases hv
  · cases hv

theorem pval_sub (h : Sub S T) {env : Env} {op : Op} {v : PV} (hv : pval P S env op = some v) : pval P T env op = some v := by
  cases op with
  | load t x =>
    simp only [pval] at hv ⊢
    cases h2 : pelem S (ev env x) with
    | none => rw [h2] at hv; split at hv <;> simp_all
    | some y => rw [h2] at hv; rw [pelem_sub h h2]; exact hv
  | indexAddr t x i =>
    simp only [pval] at hv ⊢
    cases h1 : tyOf P t with
    | none => rw [h1] at hv; cases hv
    | some ty =>
      rw [h1] at hv
      cases h2 : pint (ev env i) with
      | none => rw [h2] at hv; cases hv
      | some n =>
        rw [h2] at hv
        simp only at hv ⊢
        cases h3 : ty.kind <;> cases h4 : ev env x <;> rw [h3, h4] at hv <;> simp only at hv ⊢ <;> first | exact hv | (cases hv; done) | skip
        rename_i k len
        cases hf : St.find S k with
        | none => rw [hf] at hv; cases hv
        | some ob => rw [hf] at hv; rw [h _ _ hf]; exact hv
  | slice t x lo hi mx =>
    simp only [pval] at hv ⊢
    split at hv
    · exact hv
    · exact hv
    · rename_i ty hty hp1 hp2
      split at hv
      · rename_i esz eb et hk
        split at hv
        · rename_i k l0 h0 es hw
          rw [pwin_sub h hw]
          exact hv
        · cases hv
      · cases hv
    · cases hv
  | call c =>
    simp only [pval] at hv ⊢
    split at hv
    · split at hv
      · rename_i x t rest h1 h2
        split at hv
        · split at hv
          · cases hl : plen S (ev env x) with
            | none => rw [hl] at hv; cases hv
            | some n => rw [hl] at hv; rw [plen_sub h hl]; exact hv
          · exact hv
          · exact hv
          · cases hv
        · cases hv
      · cases hv
    · exact hv
    · exact hv
    · cases hv
  | _ => exact hv

theorem peff_sub (h : Sub S T) {A : Key} {env : Env} {op : Op} {r : PV × Ups} (hv : peff P A S env op = some r) : peff P A T env op = some r := by
  cases op with
  | store t x y =>
    simp only [peff] at hv ⊢
    split at hv
    · rename_i ty k n i off h1 h2
      cases hf : St.find S k with
      | none => rw [hf] at hv; cases hv
      | some ob => rw [hf] at hv; rw [h _ _ hf]; exact hv
    · cases hv
  | makeMap t r => cases r <;> exact hv
  | _ => exact hv

theorem pappend_sub (h : Sub S T) {A : Key} {t : TypeId} {p q : PV} {r : PV × Ups} (hv : pappend P A S t p q = some r) : pappend P A T t p q = some r := by
  unfold pappend at hv ⊢
  split at hv
  · split at hv
    · split at hv
      · cases h5 : pelems S p with
        | none => rw [h5] at hv; split at hv <;> simp_all
        | some es =>
          cases h6 : pelems S q with
          | none => rw [h6] at hv; split at hv <;> simp_all
          | some xs =>
            rw [h5, h6] at hv
            rw [pelems_sub h h5, pelems_sub h h6]
            split at hv
            · rename_i z es' xs' h4 e1 e2
              cases e1; cases e2
              split at hv
              · rename_i hcond
                rw [if_pos hcond]
                cases p with
                | slice k len =>
                  simp only at hv ⊢
                  cases hf : St.find S k with
                  | none => rw [hf] at hv; cases hv
                  | some ob => rw [hf] at hv; rw [h _ _ hf]; exact hv
                | islice cap elems => cases cap <;> exact hv
                | part k e n lo hi =>
                  simp only at hv ⊢
                  cases hf : St.find S k with
                  | none => rw [hf] at hv; cases hv
                  | some ob => rw [hf] at hv; rw [h _ _ hf]; exact hv
                | _ => exact hv
              · cases hv
            · cases hv
      · cases hv
    · cases hv
  · cases hv

theorem pstep_sub (h : Sub S T) {A : Key} {env : Env} {op : Op} {r : PV × Ups} (hv : pstep P A S env op = some r) : pstep P A T env op = some r := by
  have quiet : (pval P S env op).map (·, ([] : Ups)) = some r → (pval P T env op).map (·, ([] : Ups)) = some r := by
    intro hq
    cases hp : pval P S env op with
    | none => rw [hp] at hq; cases hq
    | some v => rw [hp] at hq; rw [pval_sub h hp]; exact hq
  cases op with
  | call c =>
    simp only [pstep] at hv ⊢
    split at hv
    · split at hv
      · split at hv
        · rename_i htt
          rw [if_pos htt]
          exact pappend_sub h hv
        · cases hv
      · cases hv
    · split at hv
      · exact pcopy_sub h hv
      · cases hv
    · split at hv
      · exact pclear_sub h hv
      · cases hv
    · exact quiet hv
  | lookup t x i ok =>
    simp only [pstep, Option.map_eq_some_iff] at hv ⊢
    obtain ⟨v', h1, h2⟩ := hv
    exact ⟨v', plookup_sub h h1, h2⟩
  | mapUpdate t m k x => simp only [pstep] at hv ⊢; exact pupdate_sub h hv
  | insert t m k x => simp only [pstep] at hv ⊢; exact pupdate_sub h hv
  | alloc t => simp only [pstep] at hv ⊢; exact peff_sub h hv
  | box t x => simp only [pstep] at hv ⊢; exact peff_sub h hv
  | buildSlice t n ps => simp only [pstep] at hv ⊢; exact peff_sub h hv
  | makeSlice t l c => simp only [pstep] at hv ⊢; exact peff_sub h hv
  | makeMap t r =>
    cases r with
    | none => simp only [pstep] at hv ⊢; exact peff_sub h hv
    | some r =>
      simp only [pstep] at hv ⊢
      split at hv
      · split at hv
        · exact peff_sub h hv
        · cases hv
      · cases hv
  | store t x y => simp only [pstep] at hv ⊢; exact peff_sub h hv
  | _ => exact quiet hv

/-- An operation touches what is new, or what it found. -/
theorem pstep_keys {A : Key} {env : Env} {op : Op} {v : PV} {ups : Ups} (hv : pstep P A S env op = some (v, ups)) : ∀ x ∈ ups, x.1 = A ∨ ∃ ob, St.find S x.1 = some ob := by
  have quiet : (pval P S env op).map (·, ([] : Ups)) = some (v, ups) → ∀ x ∈ ups, x.1 = A ∨ ∃ ob, St.find S x.1 = some ob := by
    intro hq
    cases hp : pval P S env op with
    | none => rw [hp] at hq; cases hq
    | some v' =>
      rw [hp] at hq
      simp only [Option.map_some, Option.some.injEq, Prod.mk.injEq] at hq
      obtain ⟨_, rfl⟩ := hq
      intro x hx
      cases hx
  cases op with
  | call c =>
    simp only [pstep] at hv
    split at hv
    · split at hv
      · split at hv
        · unfold pappend at hv
          repeat' (split at hv)
          all_goals first
            | (cases hv; done)
            | (simp only [Option.some.injEq, Prod.mk.injEq] at hv
               obtain ⟨_, rfl⟩ := hv
               intro x hx
               simp only [List.mem_singleton, List.not_mem_nil] at hx
               first
                 | (exact hx.elim)
                 | (subst hx; exact .inl rfl)
                 | (subst hx; exact .inr ⟨_, by assumption⟩)
                 | done)
        · cases hv
      · cases hv
    · split at hv
      · unfold pcopy at hv
        repeat' (split at hv)
        all_goals first
          | (cases hv; done)
          | (simp only [Option.some.injEq, Prod.mk.injEq] at hv
             obtain ⟨_, rfl⟩ := hv
             intro x hx
             simp only [List.mem_singleton] at hx
             subst hx
             exact .inr ⟨_, pwin_row (by assumption)⟩)
      · cases hv
    · split at hv
      · unfold pclear at hv
        repeat' (split at hv)
        all_goals first
          | (cases hv; done)
          | (simp only [Option.some.injEq, Prod.mk.injEq] at hv
             obtain ⟨_, rfl⟩ := hv
             intro x hx
             cases hx; done)
          | (simp only [Option.some.injEq, Prod.mk.injEq] at hv
             obtain ⟨_, rfl⟩ := hv
             intro x hx
             simp only [List.mem_singleton] at hx
             subst hx
             first
               | exact .inr ⟨_, pwin_row (by assumption)⟩
               | exact .inr ⟨_, by assumption⟩)
      · cases hv
    · exact quiet hv
  | lookup t x i ok =>
    simp only [pstep, Option.map_eq_some_iff, Prod.mk.injEq] at hv
    obtain ⟨_, _, _, rfl⟩ := hv
    intro x hx
    cases hx
  | mapUpdate t m k x =>
    simp only [pstep, pupdate] at hv
    repeat' (split at hv)
    all_goals first
      | (cases hv; done)
      | (simp only [Option.some.injEq, Prod.mk.injEq] at hv
         obtain ⟨_, rfl⟩ := hv
         intro x hx
         simp only [List.mem_singleton] at hx
         subst hx; exact .inr ⟨_, by assumption⟩)
  | insert t m k x =>
    simp only [pstep, pupdate] at hv
    repeat' (split at hv)
    all_goals first
      | (cases hv; done)
      | (simp only [Option.some.injEq, Prod.mk.injEq] at hv
         obtain ⟨_, rfl⟩ := hv
         intro x hx
         simp only [List.mem_singleton] at hx
         subst hx; exact .inr ⟨_, by assumption⟩)
  | alloc t =>
    simp only [pstep, peff] at hv
    repeat' (split at hv)
    all_goals first
      | (cases hv; done)
      | (simp only [Option.some.injEq, Prod.mk.injEq] at hv
         obtain ⟨_, rfl⟩ := hv
         intro x hx
         simp only [List.mem_singleton] at hx
         subst hx; exact .inl rfl)
  | box t x =>
    simp only [pstep, peff] at hv
    repeat' (split at hv)
    all_goals first
      | (cases hv; done)
      | (simp only [Option.some.injEq, Prod.mk.injEq] at hv
         obtain ⟨_, rfl⟩ := hv
         intro x hx
         simp only [List.mem_singleton] at hx
         subst hx; exact .inl rfl)
  | buildSlice t n ps =>
    simp only [pstep, peff] at hv
    repeat' (split at hv)
    all_goals first
      | (cases hv; done)
      | (simp only [Option.some.injEq, Prod.mk.injEq] at hv
         obtain ⟨_, rfl⟩ := hv
         intro x hx
         simp only [List.mem_singleton] at hx
         subst hx; exact .inl rfl)
  | makeSlice t l c =>
    simp only [pstep, peff] at hv
    repeat' (split at hv)
    all_goals first
      | (cases hv; done)
      | (simp only [Option.some.injEq, Prod.mk.injEq] at hv
         obtain ⟨_, rfl⟩ := hv
         intro x hx
         simp only [List.mem_singleton] at hx
         subst hx; exact .inl rfl)
  | makeMap t r =>
    cases r with
    | some r =>
      simp only [pstep, peff] at hv
      split at hv
      · split at hv
        · simp only [Option.some.injEq, Prod.mk.injEq] at hv
          obtain ⟨_, rfl⟩ := hv
          intro x hx
          simp only [List.mem_singleton] at hx
          subst hx; exact .inl rfl
        · cases hv
      · cases hv
    | none =>
      simp only [pstep, peff, Option.some.injEq, Prod.mk.injEq] at hv
      obtain ⟨_, rfl⟩ := hv
      intro x hx
      simp only [List.mem_singleton] at hx
      subst hx; exact .inl rfl
  | store t x y =>
    simp only [pstep, peff] at hv
    repeat' (split at hv)
    all_goals first
      | (cases hv; done)
      | (simp only [Option.some.injEq, Prod.mk.injEq] at hv
         obtain ⟨_, rfl⟩ := hv
         intro x hx
         simp only [List.mem_singleton] at hx
         subst hx; exact .inr ⟨_, by assumption⟩)
  | _ => exact quiet hv

end
end Go.Pv

