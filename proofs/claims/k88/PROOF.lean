import PyProof.Rows.All
import Wide.All
import OpenK.AllK
import Wide.FinOn
import HandS.ForMost
import HandS.IsInst
import HandS.Wide
import HandS.Gcd
import HandS.TupAny
import HandS.TupMul
import HandS.Rev
import HandS.Zip
import PyProof.LongRange
import HandS.Style
import HandS.Conv
import HandS.AnyAll
import HandS.GenList
import HandS.Iter
import HandS.EndTab
import HandS.EndOwn
import HandS.RepeatKit
import PyProof.ListNew
import PyProof.TupleOfSeq
import KE.SortData
import HandS.SortOrd
import HandS.WideBits
import PyProof.Draws
import KE.KRevSl
import PyProof.ListRange
import PyProof.WalksMore
import PyProof.WalkInts
import PySem.Challenge.RW_lastfigure_k88_drawn_cases
set_option Elab.async false
set_option linter.all false
set_option maxRecDepth 100000
set_option maxHeartbeats 4000000
set_option synthInstance.maxHeartbeats 2000000
set_option synthInstance.maxSize 100000
/-! P3: pure values over the hand layer: every def of the text is a predicate transformer over plain data. -/
namespace L2.P3
open PySem PySem.Spec PyProof.Rows

/-- plain values: numbers, texts, tuples by value; lst: a list of the store; rol: a list that is only read; bag: the law's source of draws -/
inductive PV where
  | non | bl (b : Bool) | int (i : Int) | str (x : Str) | tup (xs : List PV) | lst (n : Nat) | rol (xs : List PV) | bag | dic (n : Nat) | obj (n : Nat)

abbrev Store := List (List PV)
abbrev PEnv := List (Option PV)
structure PX where
  cls : String
  args : List PV
abbrev XW := PEnv → PX → Store → Prop
abbrev PQ := PV → Store → Prop
abbrev PTE := XW → PEnv → Store → PQ → Prop
abbrev PTA := XW → PEnv → Store → (List PV → Store → Prop) → Prop
abbrev PTT := XW → PEnv → Store → (Bool → Store → Prop) → Prop
abbrev PTO := XW → PEnv → Store → (Option Int → Store → Prop) → Prop
structure PEnds where
  nx : PEnv → Store → Prop
  rt : PQ
  bk : PEnv → Store → Prop := fun _ _ => False
  ct : PEnv → Store → Prop := fun _ _ => False
abbrev PTS := XW → PEnds → PEnv → Store → Prop
abbrev PTG := XW → PV → PEnv → Store → (PEnv → Store → Prop) → Prop

/-- two ways: no rewriting goes into them -/
def Br (b : Bool) (P Q : Prop) : Prop := match b with
  | true => P
  | false => Q
theorem Br_congr {b b' : Bool} {P Q : Prop} (h : b = b') : Br b P Q = Br b' P Q := by rw [h]
theorem br {b : Bool} {P Q : Prop} (h1 : b = true → P) (h2 : b = false → Q) : Br b P Q := by
  cases b
  · exact h2 rfl
  · exact h1 rfl
theorem brT {b : Bool} {P Q : Prop} (h : b = true) (p : P) : Br b P Q := by subst h; exact p
theorem brF {b : Bool} {P Q : Prop} (h : b = false) (p : Q) : Br b P Q := by subst h; exact p
/-- what is there, and so: no rewriting goes behind it -/
def onO {α : Type} (o : Option α) (k : α → Prop) : Prop := match o with
  | some x => k x
  | none => False
theorem onO_congr {α : Type} {o o' : Option α} {k : α → Prop} (h : o = o') : onO o k = onO o' k := by rw [h]
theorem onO_some {α : Type} (x : α) (k : α → Prop) : onO (some x) k = k x := rfl
theorem onO_ex {α : Type} {o : Option α} {k : α → Prop} (h : onO o k) : ∃ x, o = some x ∧ k x := by
  cases o with
  | none => exact False.elim h
  | some x => exact ⟨x, rfl, h⟩
theorem onO_of {α : Type} {o : Option α} {k : α → Prop} {x : α} (e : o = some x) (h : k x) : onO o k := by rw [e]; exact h
theorem onO_mo {α : Type} {o : Option α} {k k' : α → Prop} (h : ∀ x, k x → k' x) (q : onO o k) : onO o k' := by
  cases o with
  | none => exact False.elim q
  | some x => exact h x q
/-- what stands at a place of the store: a list, a dict of ints and texts, an instance -/
inductive Kd where
  | lst | dic | ins (C dx : Addr) (fs : List Str)
/-- where things stand: the store's lists, the bag's own lists -/
structure Am where
  m : List Addr
  bag : Option (List Addr)
  k : List Kd := m.map fun _ => .lst
/-- what a bag is: the place of its root among its lists, what holds of their contents; the tables of code objects that stand -/
structure BagKind where
  root : Nat
  shape : List Addr → List (List V) → Prop
  tabs : List Addr := []
def noBag : BagKind := { root := 0, shape := fun _ _ => False }
/-- a code object's table -/
def Tbl (H : Hp) (P : Addr) : Prop := ∃ ps : Array Value, H P = some (.tbl ps) ∧ TriplesOk ps.toList
/-- what may change -/
def mu : HO → Prop
  | .lst _ => True
  | .dK _ => True
  | .ins .. => True
  | _ => False

def FzL (K : PySem.W.Frag) (H : Hp) (a : Addr) (xs : List V) : Prop :=
  (∃ o, H a = some (.frz o (.lst xs))) ∨
    ∃ (o : Obj) (its : Array Value) (n : Nat), K.lookup a = some o ∧ o.cls = .type "list" ∧ o.dict = none ∧ o.data = .seq its n ∧ its.size ≤ sizeLine ∧ Vals xs its.toList
theorem FzL.sq {K : PySem.W.Frag} {H : Hp} {a : Addr} {xs : List V} (h : FzL K H a xs) : SqL K H a xs := by
  rcases h with ⟨o, h⟩ | h
  · exact .inl (.inr ⟨o, h⟩)
  · exact .inr h

mutual
def Rp (K : PySem.W.Frag) (r : Nat) (M : Am) (H : Hp) : PV → V → Prop
  | .non, v => v = .non
  | .bl b, v => v = .bl b
  | .int i, v => v = .int i
  | .str x, v => v = .str x
  | .tup xs, v => ∃ a vs, v = .ref a ∧ SqT K H a vs ∧ Rps K r M H xs vs
  | .lst n, v => ∃ a, M.m[n]? = some a ∧ M.k[n]? = some .lst ∧ v = .ref a
  | .rol xs, v => ∃ a vs, v = .ref a ∧ FzL K H a vs ∧ Rps K r M H xs vs
  | .bag, v => ∃ own a, M.bag = some own ∧ own[r]? = some a ∧ v = .ref a
  | .dic n, v => ∃ a, M.m[n]? = some a ∧ M.k[n]? = some .dic ∧ v = .ref a
  | .obj n, v => ∃ a C dx fs, M.m[n]? = some a ∧ M.k[n]? = some (.ins C dx fs) ∧ v = .ref a
def Rps (K : PySem.W.Frag) (r : Nat) (M : Am) (H : Hp) : List PV → List V → Prop
  | [], vs => vs = []
  | x :: xs, vs => ∃ v ws, vs = v :: ws ∧ Rp K r M H x v ∧ Rps K r M H xs ws
end

/-- a key as a plain value -/
def keyP : Key → PV
  | .inl i => .int i
  | .inr x => .str x
/-- an instance's head: its class's name, the names of its attributes in the order in which they are made -/
def insTag (nm : Str) (fs : List Str) : PV := .tup (.str nm :: fs.map .str)
/-- a place of the store and what stands there: a list's items; a dict's pairs; an instance's head and attributes -/
def Cell (K : PySem.W.Frag) (r : Nat) (M : Am) (H : Hp) : Kd → List PV → HO → Prop
  | .lst, xs, o => ∃ vs, o = .lst vs ∧ Rps K r M H xs vs
  | .dic, xs, o => ∃ (ys : List (Key × PV)) (vs : List V), xs = ys.map (fun p => PV.tup [keyP p.1, p.2]) ∧ o = .dK ((ys.map (·.1)).zip vs) ∧ Rps K r M H (ys.map (·.2)) vs
  | .ins C dx fs, xs, o => ∃ nm ys vs, xs = insTag nm fs :: ys ∧ PySem.W.nsIn K mainGlobals nm = some (some (.ref C)) ∧ o = .ins C dx (fs.zip vs) ∧ H dx ≠ none ∧ ys.length ≤ fs.length ∧ Rps K r M H ys vs
/-- lists at m with the contents S, related by the map M -/
structure StL (K : PySem.W.Frag) (r : Nat) (M : Am) (m : List Addr) (k : List Kd) (S : Store) (H : Hp) : Prop where
  len : m.length = S.length
  lenk : k.length = S.length
  nd : m.Nodup
  at_ : ∀ (n : Nat) (xs : List PV), S[n]? = some xs → ∃ (a : Addr) (c : Kd) (o : HO), m[n]? = some a ∧ k[n]? = some c ∧ H a = some o ∧ Cell K r M H c xs o
/-- the bag: its own lists and their contents -/
def BagOk (bk : BagKind) (H : Hp) : Option (List Addr) → Prop
  | none => True
  | some own => own.Nodup ∧ bk.root < own.length ∧ ∃ cs : List (List V), bk.shape own cs ∧ cs.length = own.length ∧ ∀ (n : Nat) (a : Addr), own[n]? = some a → ∃ c, cs[n]? = some c ∧ H a = some (.lst c)
def own? : Option (List Addr) → List Addr
  | none => []
  | some l => l
structure Sto (K : PySem.W.Frag) (bk : BagKind) (M : Am) (S : Store) (H : Hp) : Prop where
  st : StL K bk.root M M.m M.k S H
  bag : BagOk bk H M.bag
  apart : ∀ b ∈ M.m, b ∉ own? M.bag
  tabs : ∀ P ∈ bk.tabs, Tbl H P
structure Step (M : Am) (H : Hp) (M' : Am) (H' : Hp) : Prop where
  pre : ∃ l, M'.m = M.m ++ l
  prek : ∃ l, M'.k = M.k ++ l
  bag : M'.bag = M.bag
  keep : ∀ b x, b ∉ M.m → b ∉ own? M.bag → (∀ ps, x ≠ .tbl ps) → H b = some x → H' b = some x
  tab : ∀ b, Tbl H b → Tbl H' b
  live : ∀ b, H b ≠ none → H' b ≠ none
  new : ∀ b ∈ M'.m, b ∉ M.m → H b = none

theorem Step.refl (M : Am) (H : Hp) : Step M H M H := ⟨⟨[], by simp⟩, ⟨[], by simp⟩, rfl, fun _ _ _ _ _ h => h, fun _ h => h, fun _ h => h, fun b h h' => absurd h h'⟩
theorem Step.trans {M1 M2 M3 : Am} {H1 H2 H3 : Hp} (a : Step M1 H1 M2 H2) (b : Step M2 H2 M3 H3) : Step M1 H1 M3 H3 := by
  obtain ⟨l1, e1⟩ := a.pre
  obtain ⟨l2, e2⟩ := b.pre
  obtain ⟨j1, f1⟩ := a.prek
  obtain ⟨j2, f2⟩ := b.prek
  refine ⟨⟨l1 ++ l2, by rw [e2, e1, List.append_assoc]⟩, ⟨j1 ++ j2, by rw [f2, f1, List.append_assoc]⟩, b.bag.trans a.bag, fun c x h1 h2 h3 h => ?_, fun c h => b.tab c (a.tab c h), fun c h => b.live c (a.live c h), fun c h1 h2 => ?_⟩
  · refine b.keep c x (fun hc => ?_) (by rw [a.bag]; exact h2) h3 (a.keep c x h1 h2 h3 h)
    rw [a.new c hc h1] at h; cases h
  · by_cases hc : c ∈ M2.m
    · exact a.new c hc h2
    · cases q : H1 c with
      | none => rfl
      | some x => exact absurd (b.new c h1 hc) (a.live c (by rw [q]; simp))

section
variable {K : PySem.W.Frag} {bk : BagKind} {r : Nat} {M M' : Am} {S S' : Store} {H H' : Hp}
theorem Rps.length : ∀ {xs : List PV} {vs : List V}, Rps K r M H xs vs → vs.length = xs.length
  | [], vs, h => by
    rw [Rps] at h; subst h; rfl
  | x :: xs, vs, h => by
    rw [Rps] at h
    obtain ⟨v, ws, rfl, _, h⟩ := h
    simp [Rps.length h]
theorem Rps.get : ∀ {xs : List PV} {vs : List V} {i : Nat} {x : PV}, Rps K r M H xs vs → xs[i]? = some x → ∃ v, vs[i]? = some v ∧ Rp K r M H x v
  | [], _, _, _, _, e => by simp at e
  | y :: xs, vs, 0, x, h, e => by
    rw [Rps] at h
    obtain ⟨v, ws, rfl, h1, _⟩ := h
    simp at e; subst e
    exact ⟨v, rfl, h1⟩
  | y :: xs, vs, i + 1, x, h, e => by
    rw [Rps] at h
    obtain ⟨v, ws, rfl, _, h⟩ := h
    obtain ⟨u, h1, h2⟩ := Rps.get (i := i) h (by simpa using e)
    exact ⟨u, by simpa using h1, h2⟩
theorem Rps.nil : Rps K r M H [] [] := by rw [Rps]
theorem Rps.cons {x : PV} {v : V} {xs : List PV} {vs : List V} (h : Rp K r M H x v) (h' : Rps K r M H xs vs) : Rps K r M H (x :: xs) (v :: vs) := by
  rw [Rps]; exact ⟨v, vs, rfl, h, h'⟩
theorem Rps.append : ∀ {xs ys : List PV} {vs ws : List V}, Rps K r M H xs vs → Rps K r M H ys ws → Rps K r M H (xs ++ ys) (vs ++ ws)
  | [], ys, vs, ws, h, h' => by
    rw [Rps] at h; subst h; exact h'
  | x :: xs, ys, vs, ws, h, h' => by
    rw [Rps] at h
    obtain ⟨v, us, rfl, h1, h⟩ := h
    exact Rps.cons h1 (Rps.append h h')
theorem Rps.set : ∀ {xs : List PV} {vs : List V} (i : Nat) {x : PV} {v : V}, Rps K r M H xs vs → Rp K r M H x v → Rps K r M H (xs.set i x) (vs.set i v)
  | [], vs, i, x, v, h, _ => by
    rw [Rps] at h; subst h; exact Rps.nil
  | y :: xs, vs, 0, x, v, h, h' => by
    rw [Rps] at h
    obtain ⟨u, us, rfl, h1, h⟩ := h
    exact Rps.cons h' h
  | y :: xs, vs, i + 1, x, v, h, h' => by
    rw [Rps] at h
    obtain ⟨u, us, rfl, h1, h⟩ := h
    exact Rps.cons h1 (Rps.set i h h')
/-- what a change must keep, for values -/
structure Kp (K : PySem.W.Frag) (M M' : Am) (H H' : Hp) : Prop where
  m : ∀ (n : Nat) (a : Addr), M.m[n]? = some a → M'.m[n]? = some a
  k : ∀ (n : Nat) (c : Kd), M.k[n]? = some c → M'.k[n]? = some c
  b : ∀ own, M.bag = some own → M'.bag = some own
  t : ∀ a vs, SqT K H a vs → SqT K H' a vs
  l : ∀ a vs, FzL K H a vs → FzL K H' a vs
mutual
theorem Rp.kp (k : Kp K M M' H H') : ∀ {x : PV} {v : V}, Rp K r M H x v → Rp K r M' H' x v
  | .non, v, h => by rw [Rp] at h ⊢; exact h
  | .bl b, v, h => by rw [Rp] at h ⊢; exact h
  | .int i, v, h => by rw [Rp] at h ⊢; exact h
  | .str x, v, h => by rw [Rp] at h ⊢; exact h
  | .tup xs, v, h => by
    rw [Rp] at h ⊢
    obtain ⟨a, vs, e, s, q⟩ := h
    exact ⟨a, vs, e, k.t a vs s, Rps.kp k q⟩
  | .lst n, v, h => by
    rw [Rp] at h ⊢
    obtain ⟨a, e, f, q⟩ := h
    exact ⟨a, k.m n a e, k.k n _ f, q⟩
  | .dic n, v, h => by
    rw [Rp] at h ⊢
    obtain ⟨a, e, f, q⟩ := h
    exact ⟨a, k.m n a e, k.k n _ f, q⟩
  | .obj n, v, h => by
    rw [Rp] at h ⊢
    obtain ⟨a, C, dx, fs, e, f, q⟩ := h
    exact ⟨a, C, dx, fs, k.m n a e, k.k n _ f, q⟩
  | .rol xs, v, h => by
    rw [Rp] at h ⊢
    obtain ⟨a, vs, e, s, q⟩ := h
    exact ⟨a, vs, e, k.l a vs s, Rps.kp k q⟩
  | .bag, v, h => by
    rw [Rp] at h ⊢
    obtain ⟨own, a, e, q⟩ := h
    exact ⟨own, a, k.b own e, q⟩
theorem Rps.kp (k : Kp K M M' H H') : ∀ {xs : List PV} {vs : List V}, Rps K r M H xs vs → Rps K r M' H' xs vs
  | [], vs, h => by rw [Rps] at h ⊢; exact h
  | x :: xs, vs, h => by
    rw [Rps] at h ⊢
    obtain ⟨v, ws, e, h1, h2⟩ := h
    exact ⟨v, ws, e, Rp.kp k h1, Rps.kp k h2⟩
end
theorem Cell.mu {c : Kd} {xs : List PV} {o : HO} (h : Cell K r M H c xs o) : mu o := by
  cases c with
  | lst => obtain ⟨_, rfl, _⟩ := h; trivial
  | dic => obtain ⟨_, _, _, rfl, _⟩ := h; trivial
  | ins C dx fs => obtain ⟨_, _, _, _, _, rfl, _⟩ := h; trivial
theorem StL.mem {m : List Addr} {k : List Kd} (s : StL K r M m k S H) {a : Addr} (h : a ∈ m) : ∃ o, H a = some o ∧ mu o := by
  obtain ⟨n, hn, e⟩ := List.getElem_of_mem h
  have hs : n < S.length := by rw [← s.len]; exact hn
  obtain ⟨b, c, o, e1, _, e2, e3⟩ := s.at_ n S[n] (by simp [hs])
  rw [List.getElem?_eq_getElem hn] at e1
  have : m[n] = b := Option.some.inj e1
  rw [← e, this]; exact ⟨o, e2, e3.mu⟩
theorem Sto.memO (s : Sto K bk M S H) {a : Addr} (h : a ∈ own? M.bag) : ∃ vs, H a = some (.lst vs) := by
  have b := s.bag
  cases q : M.bag with
  | none => rw [q] at h; simp [own?] at h
  | some own =>
    rw [q] at b h
    obtain ⟨_, _, cs, _, _, t⟩ := b
    obtain ⟨n, hn, e⟩ := List.getElem_of_mem h
    obtain ⟨c, _, ec⟩ := t n own[n] (List.getElem?_eq_getElem hn)
    exact ⟨c, by rw [← e]; exact ec⟩
theorem Sto.keep (s : Sto K bk M S H) (t : Step M H M' H') {b : Addr} {x : HO} (h : H b = some x) (n : ¬ mu x) (nt : ∀ ps, x ≠ .tbl ps) : H' b = some x := by
  refine t.keep b x (fun hm => ?_) (fun hm => ?_) nt h
  · obtain ⟨o, e, m⟩ := s.st.mem hm
    rw [h] at e; cases e; exact n m
  · obtain ⟨vs, e⟩ := s.memO hm
    rw [h] at e; cases e; exact n trivial
theorem Sto.kp (s : Sto K bk M S H) (t : Step M H M' H') : Kp K M M' H H' := by
  refine ⟨fun n a e => ?_, fun n c e => ?_, fun own e => by rw [t.bag]; exact e, fun a vs h => ?_, fun a vs h => ?_⟩
  · obtain ⟨l, e'⟩ := t.pre
    rw [e', List.getElem?_append_left (List.getElem?_eq_some_iff.mp e).1]; exact e
  · obtain ⟨l, e'⟩ := t.prek
    rw [e', List.getElem?_append_left (List.getElem?_eq_some_iff.mp e).1]; exact e
  · rcases h with (h | ⟨o, h⟩) | h
    · exact .inl (.inl (s.keep t h (fun z => z) fun _ z => by cases z))
    · exact .inl (.inr ⟨o, s.keep t h (fun z => z) fun _ z => by cases z⟩)
    · exact .inr h
  · rcases h with ⟨o, h⟩ | h
    · exact .inl ⟨o, s.keep t h (fun z => z) fun _ z => by cases z⟩
    · exact .inr h
theorem Cell.kp {M' : Am} {H' : Hp} (k : Kp K M M' H H') (live : ∀ b, H b ≠ none → H' b ≠ none) {c : Kd} {xs : List PV} {o : HO} (h : Cell K r M H c xs o) : Cell K r M' H' c xs o := by
  cases c with
  | lst => obtain ⟨vs, e, q⟩ := h; exact ⟨vs, e, q.kp k⟩
  | dic => obtain ⟨ys, vs, e1, e2, q⟩ := h; exact ⟨ys, vs, e1, e2, q.kp k⟩
  | ins C dx fs => obtain ⟨nm, ys, vs, e0, ec, e, e2, e3, q⟩ := h; exact ⟨nm, ys, vs, e0, ec, e, live _ e2, e3, q.kp k⟩
theorem Cell.step {c : Kd} {xs : List PV} {o : HO} (h : Cell K bk.root M H c xs o) (s : Sto K bk M S H) (t : Step M H M' H') : Cell K bk.root M' H' c xs o := h.kp (s.kp t) t.live
theorem Rp.step {x : PV} {v : V} (h : Rp K bk.root M H x v) (s : Sto K bk M S H) (t : Step M H M' H') : Rp K bk.root M' H' x v := h.kp (s.kp t)
theorem Rps.step {x : List PV} {v : List V} (h : Rps K bk.root M H x v) (s : Sto K bk M S H) (t : Step M H M' H') : Rps K bk.root M' H' x v := h.kp (s.kp t)

/-- the frame's slots and the store -/
structure Rel (K : PySem.W.Frag) (bk : BagKind) (M : Am) (ρ : PEnv) (S : Store) (σ : St) (H : Hp) : Prop where
  len : ρ.length = σ.length
  slots : ∀ (i : Nat) (x : PV), ρ[i]? = some (some x) → ∃ v, σ[i]? = some (some v) ∧ Rp K bk.root M H x v
  sto : Sto K bk M S H
theorem Rel.step {ρ : PEnv} {σ : St} (R : Rel K bk M ρ S σ H) (t : Step M H M' H') (s : Sto K bk M' S' H') : Rel K bk M' ρ S' σ H' :=
  ⟨R.len, fun i x e => let ⟨v, e1, h⟩ := R.slots i x e; ⟨v, e1, h.step R.sto t⟩, s⟩
theorem Rel.set {ρ : PEnv} {σ : St} {x : PV} {v : V} (R : Rel K bk M ρ S σ H) (i : Nat) (h : Rp K bk.root M H x v) : Rel K bk M (ρ.set i (some x)) S (σ.set i (some v)) H := by
  refine ⟨by simp [R.len], fun j y e => ?_, R.sto⟩
  by_cases hj : i = j
  · subst hj
    have hl : i < ρ.length := by
      have := (List.getElem?_eq_some_iff.mp e).1
      simpa using this
    rw [List.getElem?_set_self hl] at e
    cases e
    exact ⟨v, List.getElem?_set_self (by rw [← R.len]; exact hl), h⟩
  · rw [List.getElem?_set_ne hj] at e
    obtain ⟨u, e1, q⟩ := R.slots j y e
    exact ⟨u, by rw [List.getElem?_set_ne hj]; exact e1, q⟩
end
end L2.P3
namespace L2.P3
open PySem PySem.Spec PyProof.Rows

/-! ### judgements -/
section
variable (bk : BagKind)
/-- from a state, what is wanted of a value, in both worlds -/
def Post (K : PySem.W.Frag) (M : Am) (H : Hp) (Q : PQ) (Q' : VK) : Prop :=
  ∀ M' S' H' x v, Step M H M' H' → Sto K bk M' S' H' → Rp K bk.root M' H' x v → Q x S' → Q' v H'
def PostA (K : PySem.W.Frag) (M : Am) (H : Hp) (Q : List PV → Store → Prop) (Q' : List V → Hp → Prop) : Prop :=
  ∀ M' S' H' x v, Step M H M' H' → Sto K bk M' S' H' → Rps K bk.root M' H' x v → Q x S' → Q' v H'
def PostT {α : Type} (K : PySem.W.Frag) (M : Am) (H : Hp) (Q : α → Store → Prop) (Q' : α → Hp → Prop) : Prop :=
  ∀ M' S' H' b, Step M H M' H' → Sto K bk M' S' H' → Q b S' → Q' b H'
def PostS (K : PySem.W.Frag) (M : Am) (H : Hp) (Q : PEnv → Store → Prop) (Q' : St → Hp → Prop) : Prop :=
  ∀ M' ρ' S' σ' H', Step M H M' H' → Rel K bk M' ρ' S' σ' H' → Q ρ' S' → Q' σ' H'
structure PostD (K : PySem.W.Frag) (M : Am) (H : Hp) (D : PEnds) (D' : Ends) : Prop where
  nx : PostS bk K M H D.nx D'.nx
  rt : Post bk K M H D.rt D'.rt
  br : PostS bk K M H D.bk D'.bk
  ct : PostS bk K M H D.ct D'.ct

structure QE (X : Cx) (e : Expr) (f : PTE) : Prop where
  ex : ∃ t, PE X e t ∧ ∀ (E : XW) M ρ S σ H Q Q', Rel X.K bk M ρ S σ H → f E ρ S Q → Post bk X.K M H Q Q' → t σ H Q'
structure QA (X : Cx) (es : List Expr) (f : PTA) : Prop where
  ex : ∃ t, PA X es t ∧ ∀ (E : XW) M ρ S σ H Q Q', Rel X.K bk M ρ S σ H → f E ρ S Q → PostA bk X.K M H Q Q' → t σ H Q'
structure QT (X : Cx) (e : Expr) (f : PTT) : Prop where
  ex : ∃ t, PT X e t ∧ ∀ (E : XW) M ρ S σ H Q Q', Rel X.K bk M ρ S σ H → f E ρ S Q → PostT bk X.K M H Q Q' → t σ H Q'
structure QW (X : Cx) (e : Expr) (f : PTT) : Prop where
  ex : ∃ t, PW X e t ∧ ∀ (E : XW) M ρ S σ H Q Q', Rel X.K bk M ρ S σ H → f E ρ S Q → PostT bk X.K M H Q Q' → t σ H Q'
structure QO (X : Cx) (e : Option Expr) (f : PTO) : Prop where
  ex : ∃ t, PO X e t ∧ ∀ (E : XW) M ρ S σ H Q Q', Rel X.K bk M ρ S σ H → f E ρ S Q → PostT bk X.K M H Q Q' → t σ H Q'
structure QS (X : Cx) (s : Stmt) (f : PTS) : Prop where
  ex : ∃ t, PS X s t ∧ ∀ (E : XW) M ρ S σ H D D', Rel X.K bk M ρ S σ H → f E D ρ S → PostD bk X.K M H D D' → t D' σ H
structure QSs (X : Cx) (s : List Stmt) (f : PTS) : Prop where
  ex : ∃ t, PSs X s t ∧ ∀ (E : XW) M ρ S σ H D D', Rel X.K bk M ρ S σ H → f E D ρ S → PostD bk X.K M H D D' → t D' σ H
structure QG (X : Cx) (e : Expr) (g : PTG) : Prop where
  ex : ∃ t, PG X e t ∧ ∀ (E : XW) M ρ S σ H x v Q Q', Rel X.K bk M ρ S σ H → Rp X.K bk.root M H x v → g E x ρ S Q → PostS bk X.K M H Q Q' → t v σ H Q'
structure QGs (X : Cx) (es : List Expr) (g : XW → List PV → PEnv → Store → (PEnv → Store → Prop) → Prop) : Prop where
  ex : ∃ t, PGs X es t ∧ ∀ (E : XW) M ρ S σ H x v Q Q', Rel X.K bk M ρ S σ H → Rps X.K bk.root M H x v → g E x ρ S Q → PostS bk X.K M H Q Q' → t v σ H Q'
end
section
variable {bk : BagKind} {K : PySem.W.Frag} {M M1 : Am} {H H1 : Hp}
theorem Post.after {Q Q'} (p : Post bk K M H Q Q') (t : Step M H M1 H1) : Post bk K M1 H1 Q Q' := fun M' S' H' x v t' => p M' S' H' x v (t.trans t')
theorem PostA.after {Q Q'} (p : PostA bk K M H Q Q') (t : Step M H M1 H1) : PostA bk K M1 H1 Q Q' := fun M' S' H' x v t' => p M' S' H' x v (t.trans t')
theorem PostT.after {α} {Q : α → Store → Prop} {Q'} (p : PostT bk K M H Q Q') (t : Step M H M1 H1) : PostT bk K M1 H1 Q Q' := fun M' S' H' x t' => p M' S' H' x (t.trans t')
theorem PostS.after {Q Q'} (p : PostS bk K M H Q Q') (t : Step M H M1 H1) : PostS bk K M1 H1 Q Q' := fun M' ρ' S' σ' H' t' => p M' ρ' S' σ' H' (t.trans t')
theorem PostD.after {D D'} (p : PostD bk K M H D D') (t : Step M H M1 H1) : PostD bk K M1 H1 D D' := ⟨p.nx.after t, p.rt.after t, p.br.after t, p.ct.after t⟩
end

/-! ### values by value: two-place, one-place, calls -/
abbrev PO2 := PV → PV → Store → PQ → Prop
abbrev PO1 := PV → Store → PQ → Prop
abbrev PCl := List PV → Store → PQ → Prop
section
variable (bk : BagKind) (K : PySem.W.Frag)
def OpP (r : R2) (o : PO2) : Prop := ∀ M S H x y v w Q Q', Sto K bk M S H → Rp K bk.root M H x v → Rp K bk.root M H y w → o x y S Q → Post bk K M H Q Q' → r v w H Q'
def UnP (r : V → Hp → VK → Prop) (o : PO1) : Prop := ∀ M S H x v Q Q', Sto K bk M S H → Rp K bk.root M H x v → o x S Q → Post bk K M H Q Q' → r v H Q'
def ClP (r : List V → Hp → VK → Prop) (o : PCl) : Prop := ∀ M S H x v Q Q', Sto K bk M S H → Rps K bk.root M H x v → o x S Q → Post bk K M H Q Q' → r v H Q'
end

def pVar (i : Nat) : PTE := fun _ ρ S Q => match ρ[i]? with | some (some x) => Q x S | _ => False
def pC (x : PV) : PTE := fun _ _ S Q => Q x S
def pOp (o : PO2) (f g : PTE) : PTE := fun E ρ S Q => f E ρ S fun x S1 => g E ρ S1 fun y S2 => o x y S2 Q
def pUn (o : PO1) (f : PTE) : PTE := fun E ρ S Q => f E ρ S fun x S1 => o x S1 Q
def pCl (o : PCl) (f : PTA) : PTE := fun E ρ S Q => f E ρ S fun xs S1 => o xs S1 Q
def pANil : PTA := fun _ _ S Q => Q [] S
def pACons (f : PTE) (g : PTA) : PTA := fun E ρ S Q => f E ρ S fun x S1 => g E ρ S1 fun xs S2 => Q (x :: xs) S2
def pIf (c : PTT) (f g : PTE) : PTE := fun E ρ S Q => c E ρ S fun b S1 => Br b (f E ρ S1 Q) (g E ρ S1 Q)
/-- a value that is True or False, as a test -/
def pTB (f : PTE) : PTT := fun E ρ S Q => f E ρ S fun x S1 => match x with | .bl b => Q b S1 | _ => False
def pAnd (f g : PTT) : PTT := fun E ρ S Q => f E ρ S fun b S1 => Br b (g E ρ S1 Q) (Q false S1)
def pOr (f g : PTT) : PTT := fun E ρ S Q => f E ρ S fun b S1 => Br b (Q true S1) (g E ρ S1 Q)
def pNot (f : PTT) : PTT := fun E ρ S Q => f E ρ S fun b S1 => Q (!b) S1
def pAndV (f g : PTE) : PTE := fun E ρ S Q => f E ρ S fun x S1 => match x with | .bl b => Br b (g E ρ S1 Q) (Q (.bl false) S1) | _ => False
def pOrV (f g : PTE) : PTE := fun E ρ S Q => f E ρ S fun x S1 => match x with | .bl b => Br b (Q (.bl true) S1) (g E ρ S1 Q) | _ => False
def pNotV (f : PTE) : PTE := fun E ρ S Q => f E ρ S fun x S1 => match x with | .bl b => Q (.bl (!b)) S1 | _ => False

section
variable {bk : BagKind} {X : Cx} {a b c : Expr} {f g h : PTE} {pos : Pos}
theorem q_var (i : Nat) {x : Str} (hN : X.N[i]? = some x := by rfl) (hv : Vis X.env.scope x := by first | exact Or.inl rfl | exact Or.inr (Or.inl rfl) | exact Or.inr (Or.inr rfl)) (hd : (x == ("__debug__" : Str)) = false := by decide)
    (hcd : (x == ("__classdict__" : Str)) = false := by decide) : QE bk X (.Name x pos) (pVar i) := by
  refine ⟨_, pe_var hN hv hd hcd, fun E M ρ S σ H Q Q' R q p => ?_⟩
  unfold pVar at q
  split at q
  · rename_i y e
    obtain ⟨v, e1, h⟩ := R.slots i y e
    exact ⟨v, e1, p M S H y v (.refl M H) R.sto h q⟩
  · exact q.elim
theorem q_op {op : Operator} {r : R2} {o : PO2} (ho : OpR X (binaryOp op) r) (hp : OpP bk X.K r o) (ha : QE bk X a f) (hb : QE bk X b g) : QE bk X (.BinOp a op b pos) (pOp o f g) := by
  obtain ⟨ta, pa, wa⟩ := ha.ex
  obtain ⟨tb, pb, wb⟩ := hb.ex
  refine ⟨_, pe_op ho pa pb, fun E M ρ S σ H Q Q' R q p => ?_⟩
  refine wa E M ρ S σ H _ _ R q fun M1 S1 H1 x v t1 s1 r1 q1 => ?_
  refine wb E M1 ρ S1 σ H1 _ _ (R.step t1 s1) q1 fun M2 S2 H2 y w t2 s2 r2 q2 => ?_
  exact hp M2 S2 H2 x y v w Q Q' s2 (r1.step s1 t2) r2 q2 (p.after (t1.trans t2))
theorem q_cmp {op : CmpOp} {r : R2} {o : PO2} (ho : OpR X (compareOp op) r) (hp : OpP bk X.K r o) (ha : QE bk X a f) (hb : QE bk X b g) (hm : behindInMarks op b = false) : QE bk X (.Compare a [op] [b] pos) (pOp o f g) := by
  obtain ⟨ta, pa, wa⟩ := ha.ex
  obtain ⟨tb, pb, wb⟩ := hb.ex
  refine ⟨_, pe_cmpR ho pa pb hm, fun E M ρ S σ H Q Q' R q p => ?_⟩
  refine wa E M ρ S σ H _ _ R q fun M1 S1 H1 x v t1 s1 r1 q1 => ?_
  refine wb E M1 ρ S1 σ H1 _ _ (R.step t1 s1) q1 fun M2 S2 H2 y w t2 s2 r2 q2 => ?_
  exact hp M2 S2 H2 x y v w Q Q' s2 (r1.step s1 t2) r2 q2 (p.after (t1.trans t2))
theorem q_un {op : UnaryOp} {r : V → Hp → VK → Prop} {o : PO1} (ho : UnR X (unaryOp op) r) (hp : UnP bk X.K r o) (ha : QE bk X a f) : QE bk X (.UnaryOp op a pos) (pUn o f) := by
  obtain ⟨ta, pa, wa⟩ := ha.ex
  refine ⟨_, pe_un ho pa, fun E M ρ S σ H Q Q' R q p => ?_⟩
  refine wa E M ρ S σ H _ _ R q fun M1 S1 H1 x v t1 s1 r1 q1 => ?_
  exact hp M1 S1 H1 x v Q Q' s1 r1 q1 (p.after t1)
theorem q_anil : QA bk X [] pANil := ⟨_, pa_nil, fun E M ρ S σ H Q Q' R q p => p M S H [] [] (.refl M H) R.sto .nil q⟩
theorem q_acons {e : Expr} {es : List Expr} {fs : PTA} (ha : QE bk X e f) (hs : QA bk X es fs) (he : starEach (e :: es) X.env = (false, eval e X.env) :: starEach es X.env := by rfl) : QA bk X (e :: es) (pACons f fs) := by
  obtain ⟨ta, pa, wa⟩ := ha.ex
  obtain ⟨tb, pb, wb⟩ := hs.ex
  refine ⟨_, pa_cons pa pb he, fun E M ρ S σ H Q Q' R q p => ?_⟩
  refine wa E M ρ S σ H _ _ R q fun M1 S1 H1 x v t1 s1 r1 q1 => ?_
  refine wb E M1 ρ S1 σ H1 _ _ (R.step t1 s1) q1 fun M2 S2 H2 y w t2 s2 r2 q2 => ?_
  exact p M2 S2 H2 _ _ (t1.trans t2) s2 (.cons (r1.step s1 t2) r2) q2
theorem q_callB {id : String} {x : Str} {p' : Pos} {e : Expr} {es : List Expr} {r : List V → Hp → VK → Prop} {o : PCl} {fs : PTA} (hc : CallR X (.builtin id) r) (hp : ClP bk X.K r o) (hg : Gl X x) (hm : X.mg x = none) (hv : bootBuiltins x = some (.builtin id)) (ha : QA bk X (e :: es) fs)
    (hn : x ≠ "__name__" := by decide) (hdb : (x == ("__debug__" : Str)) = false := by decide)
    (he : starEach (e :: es) X.env = (false, eval e X.env) :: starEach es X.env := by rfl) (hpl : (backTo pos (starEach es X.env)).any (·.1) = false := by rfl) : QE bk X (.Call (.Name x p') (e :: es) [] pos) (pCl o fs) := by
  obtain ⟨ta, pa, wa⟩ := ha.ex
  refine ⟨_, pe_callB hc hg hm hv pa hn hdb he hpl, fun E M ρ S σ H Q Q' R q p => ?_⟩
  exact wa E M ρ S σ H _ _ R q fun M1 S1 H1 x v t1 s1 r1 q1 => hp M1 S1 H1 x v Q Q' s1 r1 q1 (p.after t1)
theorem q_callTy {T : String} {x : Str} {p' : Pos} {e : Expr} {es : List Expr} {r : List V → Hp → VK → Prop} {o : PCl} {fs : PTA} (hc : CallR X (.type T) r) (hp : ClP bk X.K r o) (hg : Gl X x) (hm : X.mg x = none) (hv : bootBuiltins x = some (.type T)) (ha : QA bk X (e :: es) fs)
    (hn : x ≠ "__name__" := by decide) (hdb : (x == ("__debug__" : Str)) = false := by decide)
    (he : starEach (e :: es) X.env = (false, eval e X.env) :: starEach es X.env := by rfl) (hpl : (backTo pos (starEach es X.env)).any (·.1) = false := by rfl) : QE bk X (.Call (.Name x p') (e :: es) [] pos) (pCl o fs) := by
  obtain ⟨ta, pa, wa⟩ := ha.ex
  refine ⟨_, pe_callTy hc hg hm hv pa hn hdb he hpl, fun E M ρ S σ H Q Q' R q p => ?_⟩
  exact wa E M ρ S σ H _ _ R q fun M1 S1 H1 x v t1 s1 r1 q1 => hp M1 S1 H1 x v Q Q' s1 r1 q1 (p.after t1)
theorem q_callBfun {id : String} {x : Str} {p' : Pos} {e : Expr} {es : List Expr} {r : List V → Hp → VK → Prop} {o : PCl} {fs : PTA} (hc : CallR X (.builtin id) r) (hp : ClP bk X.K r o) (hg : Gl X x) (hm : X.mg x = some (.builtin id)) (ha : QA bk X (e :: es) fs)
    (hdb : (x == ("__debug__" : Str)) = false := by decide)
    (he : starEach (e :: es) X.env = (false, eval e X.env) :: starEach es X.env := by rfl) (hpl : (backTo pos (starEach es X.env)).any (·.1) = false := by rfl) : QE bk X (.Call (.Name x p') (e :: es) [] pos) (pCl o fs) := by
  obtain ⟨ta, pa, wa⟩ := ha.ex
  refine ⟨_, pe_callBfun hc hg hm pa hdb he hpl, fun E M ρ S σ H Q Q' R q p => ?_⟩
  exact wa E M ρ S σ H _ _ R q fun M1 S1 H1 x v t1 s1 r1 q1 => hp M1 S1 H1 x v Q Q' s1 r1 q1 (p.after t1)
theorem q_if {f1 : PTT} (hc : QT bk X c f1) (ha : QE bk X a f) (hb : QE bk X b g) : QE bk X (.IfExp c a b pos) (pIf f1 f g) := by
  obtain ⟨tc, pc, wc⟩ := hc.ex
  obtain ⟨ta, pa, wa⟩ := ha.ex
  obtain ⟨tb, pb, wb⟩ := hb.ex
  refine ⟨_, pe_ifExp pc pa pb, fun E M ρ S σ H Q Q' R q p => ?_⟩
  refine wc E M ρ S σ H _ _ R q fun M1 S1 H1 d t1 s1 q1 => ?_
  cases d with
  | true => exact wa E M1 ρ S1 σ H1 _ _ (R.step t1 s1) q1 (p.after t1)
  | false => exact wb E M1 ρ S1 σ H1 _ _ (R.step t1 s1) q1 (p.after t1)
theorem rp_bl {K : PySem.W.Frag} {r : Nat} {M : Am} {H : Hp} {d : Bool} {v : V} (h : Rp K r M H (.bl d) v) : v = .bl d := by rw [Rp] at h; exact h
theorem rp_int {K : PySem.W.Frag} {r : Nat} {M : Am} {H : Hp} {d : Int} {v : V} (h : Rp K r M H (.int d) v) : v = .int d := by rw [Rp] at h; exact h
theorem rp_str {K : PySem.W.Frag} {r : Nat} {M : Am} {H : Hp} {d : Str} {v : V} (h : Rp K r M H (.str d) v) : v = .str d := by rw [Rp] at h; exact h
theorem rp_non {K : PySem.W.Frag} {r : Nat} {M : Am} {H : Hp} {v : V} (h : Rp K r M H .non v) : v = .non := by rw [Rp] at h; exact h
theorem rp_tup {K : PySem.W.Frag} {r : Nat} {M : Am} {H : Hp} {xs : List PV} {v : V} (h : Rp K r M H (.tup xs) v) : ∃ a vs, v = .ref a ∧ SqT K H a vs ∧ Rps K r M H xs vs := by rw [Rp] at h; exact h
/-- a list of the store stands at a -/
def LsAt (M : Am) (n : Nat) (a : Addr) : Prop := M.m[n]? = some a ∧ M.k[n]? = some Kd.lst
theorem rp_lst {K : PySem.W.Frag} {r : Nat} {M : Am} {H : Hp} {n : Nat} {v : V} (h : Rp K r M H (.lst n) v) : ∃ a, LsAt M n a ∧ v = .ref a := by rw [Rp] at h; obtain ⟨a, e, f, q⟩ := h; exact ⟨a, ⟨e, f⟩, q⟩
theorem rp_dic {K : PySem.W.Frag} {r : Nat} {M : Am} {H : Hp} {n : Nat} {v : V} (h : Rp K r M H (.dic n) v) : ∃ a, (M.m[n]? = some a ∧ M.k[n]? = some Kd.dic) ∧ v = .ref a := by rw [Rp] at h; obtain ⟨a, e, f, q⟩ := h; exact ⟨a, ⟨e, f⟩, q⟩
theorem rp_obj {K : PySem.W.Frag} {r : Nat} {M : Am} {H : Hp} {n : Nat} {v : V} (h : Rp K r M H (.obj n) v) : ∃ a C dx fs, (M.m[n]? = some a ∧ M.k[n]? = some (Kd.ins C dx fs)) ∧ v = .ref a := by rw [Rp] at h; obtain ⟨a, C, dx, fs, e, f, q⟩ := h; exact ⟨a, C, dx, fs, ⟨e, f⟩, q⟩
theorem rp_rol {K : PySem.W.Frag} {r : Nat} {M : Am} {H : Hp} {xs : List PV} {v : V} (h : Rp K r M H (.rol xs) v) : ∃ a vs, v = .ref a ∧ FzL K H a vs ∧ Rps K r M H xs vs := by rw [Rp] at h; exact h
theorem to_bl {K : PySem.W.Frag} {r : Nat} {M : Am} {H : Hp} {d : Bool} : Rp K r M H (.bl d) (.bl d) := by rw [Rp]
theorem to_int {K : PySem.W.Frag} {r : Nat} {M : Am} {H : Hp} {d : Int} : Rp K r M H (.int d) (.int d) := by rw [Rp]
theorem to_str {K : PySem.W.Frag} {r : Nat} {M : Am} {H : Hp} {d : Str} : Rp K r M H (.str d) (.str d) := by rw [Rp]
theorem to_non {K : PySem.W.Frag} {r : Nat} {M : Am} {H : Hp} : Rp K r M H .non .non := by rw [Rp]
/-- tests -/
theorem qt_cmp {op : CmpOp} {r : R2} {o : PO2} (ho : OpR X (compareOp op) r) (hp : OpP bk X.K r o) (ha : QE bk X a f) (hb : QE bk X b g) (hm : behindInMarks op b = false) : QT bk X (.Compare a [op] [b] pos) (pTB (pOp o f g)) := by
  obtain ⟨ta, pa, wa⟩ := ha.ex
  obtain ⟨tb, pb, wb⟩ := hb.ex
  refine ⟨_, pt_cmpR ho pa pb hm, fun E M ρ S σ H Q Q' R q p => ?_⟩
  refine wa E M ρ S σ H _ _ R q fun M1 S1 H1 x v t1 s1 r1 q1 => ?_
  refine wb E M1 ρ S1 σ H1 _ _ (R.step t1 s1) q1 fun M2 S2 H2 y w t2 s2 r2 q2 => ?_
  refine hp M2 S2 H2 x y v w _ _ s2 (r1.step s1 t2) r2 q2 fun M3 S3 H3 z u t3 s3 r3 q3 => ?_
  cases z <;> first | exact q3.elim | exact ⟨_, rp_bl r3, p M3 S3 H3 _ ((t1.trans t2).trans t3) s3 q3⟩
theorem qt_val (ha : QE bk X a f) (he : ∀ whole, isTrue a X.env whole = (do let v ← whole; standAt a.pos; holding [v] (truthy v)) := by intro _; rfl) : QT bk X a (pTB f) := by
  obtain ⟨ta, pa, wa⟩ := ha.ex
  refine ⟨_, pt_val pa he, fun E M ρ S σ H Q Q' R q p => ?_⟩
  refine wa E M ρ S σ H _ _ R q fun M1 S1 H1 x v t1 s1 r1 q1 => ?_
  cases x <;> first | exact q1.elim | exact ⟨_, rp_bl r1, p M1 S1 H1 _ t1 s1 q1⟩
theorem QW.qt {e : Expr} {f : PTT} (h : QW bk X e f) : QT bk X e f := by
  obtain ⟨t, p, w⟩ := h.ex
  exact ⟨t, p.pt, w⟩
variable {rest : List Expr} {f1 f2 : PTT}
theorem qw_and1 (ha : QT bk X a f1) : QW bk X (.BoolOp .And [a] pos) f1 := by
  obtain ⟨t, p, w⟩ := ha.ex
  exact ⟨t, pw_and1 p, w⟩
theorem qw_or1 (ha : QT bk X a f1) : QW bk X (.BoolOp .Or [a] pos) f1 := by
  obtain ⟨t, p, w⟩ := ha.ex
  exact ⟨t, pw_or1 p, w⟩
theorem qw_and (ha : QT bk X a f1) (hb : QW bk X (.BoolOp .And (b :: rest) pos) f2) : QW bk X (.BoolOp .And (a :: b :: rest) pos) (pAnd f1 f2) := by
  obtain ⟨ta, pa, wa⟩ := ha.ex
  obtain ⟨tb, pb, wb⟩ := hb.ex
  refine ⟨_, pw_and pa pb, fun E M ρ S σ H Q Q' R q p => ?_⟩
  refine wa E M ρ S σ H _ _ R q fun M1 S1 H1 d t1 s1 q1 => ?_
  cases d with
  | true => exact wb E M1 ρ S1 σ H1 _ _ (R.step t1 s1) q1 (p.after t1)
  | false => exact p M1 S1 H1 _ t1 s1 q1
theorem qw_or (ha : QT bk X a f1) (hb : QW bk X (.BoolOp .Or (b :: rest) pos) f2) : QW bk X (.BoolOp .Or (a :: b :: rest) pos) (pOr f1 f2) := by
  obtain ⟨ta, pa, wa⟩ := ha.ex
  obtain ⟨tb, pb, wb⟩ := hb.ex
  refine ⟨_, pw_or pa pb, fun E M ρ S σ H Q Q' R q p => ?_⟩
  refine wa E M ρ S σ H _ _ R q fun M1 S1 H1 d t1 s1 q1 => ?_
  cases d with
  | true => exact p M1 S1 H1 _ t1 s1 q1
  | false => exact wb E M1 ρ S1 σ H1 _ _ (R.step t1 s1) q1 (p.after t1)
theorem qt_not (ha : QT bk X a f1) : QT bk X (.UnaryOp .Not a pos) (pNot f1) := by
  obtain ⟨ta, pa, wa⟩ := ha.ex
  refine ⟨_, pt_not pa, fun E M ρ S σ H Q Q' R q p => ?_⟩
  exact wa E M ρ S σ H _ _ R q fun M1 S1 H1 d t1 s1 q1 => p M1 S1 H1 _ t1 s1 q1
theorem q_one {op} (h : QE bk X a f) : QE bk X (.BoolOp op [a] pos) f := by
  obtain ⟨t, p, w⟩ := h.ex
  exact ⟨t, pe_one p, w⟩
theorem q_and (ha : QE bk X a f) (hb : QE bk X (.BoolOp .And (b :: rest) pos) g) : QE bk X (.BoolOp .And (a :: b :: rest) pos) (pAndV f g) := by
  obtain ⟨ta, pa, wa⟩ := ha.ex
  obtain ⟨tb, pb, wb⟩ := hb.ex
  refine ⟨_, pe_and pa pb, fun E M ρ S σ H Q Q' R q p => ?_⟩
  refine wa E M ρ S σ H _ _ R q fun M1 S1 H1 x v t1 s1 r1 q1 => ?_
  cases x <;> first | exact q1.elim | skip
  rename_i d
  refine ⟨d, rp_bl r1, ?_⟩
  cases d with
  | true => exact wb E M1 ρ S1 σ H1 _ _ (R.step t1 s1) q1 (p.after t1)
  | false => exact p M1 S1 H1 _ _ t1 s1 to_bl q1
theorem q_or (ha : QE bk X a f) (hb : QE bk X (.BoolOp .Or (b :: rest) pos) g) : QE bk X (.BoolOp .Or (a :: b :: rest) pos) (pOrV f g) := by
  obtain ⟨ta, pa, wa⟩ := ha.ex
  obtain ⟨tb, pb, wb⟩ := hb.ex
  refine ⟨_, pe_or pa pb, fun E M ρ S σ H Q Q' R q p => ?_⟩
  refine wa E M ρ S σ H _ _ R q fun M1 S1 H1 x v t1 s1 r1 q1 => ?_
  cases x <;> first | exact q1.elim | skip
  rename_i d
  refine ⟨d, rp_bl r1, ?_⟩
  cases d with
  | true => exact p M1 S1 H1 _ _ t1 s1 to_bl q1
  | false => exact wb E M1 ρ S1 σ H1 _ _ (R.step t1 s1) q1 (p.after t1)
theorem q_not (ha : QE bk X a f) : QE bk X (.UnaryOp .Not a pos) (pNotV f) := by
  obtain ⟨ta, pa, wa⟩ := ha.ex
  refine ⟨_, pe_not pa, fun E M ρ S σ H Q Q' R q p => ?_⟩
  refine wa E M ρ S σ H _ _ R q fun M1 S1 H1 x v t1 s1 r1 q1 => ?_
  cases x <;> first | exact q1.elim | exact ⟨_, rp_bl r1, p M1 S1 H1 _ _ t1 s1 to_bl q1⟩
end
end L2.P3
namespace L2.P3
open PySem PySem.Spec PyProof.Rows

/-! ### constants, displays -/
section
variable {bk : BagKind} {X : Cx} {pos : Pos}
theorem q_c {x : PV} {v : V} {e : Expr} (h : PE X e (tC v)) (hr : ∀ M H, Rp X.K bk.root M H x v) : QE bk X e (pC x) :=
  ⟨_, h, fun E M ρ S σ H Q Q' R q p => p M S H x v (.refl M H) R.sto (hr M H) q⟩
theorem q_int {i j} : QE bk X (.Constant (.int i) j pos) (pC (.int i)) := q_c pe_int fun _ _ => to_int
theorem q_bl {b j} : QE bk X (.Constant (.bool b) j pos) (pC (.bl b)) := q_c pe_bl fun _ _ => to_bl
theorem q_non {j} : QE bk X (.Constant .none j pos) (pC .non) := q_c pe_non fun _ _ => to_non
theorem q_str {x j} : QE bk X (.Constant (.str x) j pos) (pC (.str x)) := q_c pe_str fun _ _ => to_str
theorem q_gint {x : Str} {i : Int} {t : Tok} (hg : Gl X x) (hm : X.mg x = some (.int i t)) (hd : (x == ("__debug__" : Str)) = false := by decide) : QE bk X (.Name x pos) (pC (.int i)) := q_c (v := .int i) (pe_glob hg hm ⟨t, rfl⟩ hd) fun _ _ => to_int
theorem q_gstr {x y : Str} {t : Tok} (hg : Gl X x) (hm : X.mg x = some (.str y t)) (hd : (x == ("__debug__" : Str)) = false := by decide) : QE bk X (.Name x pos) (pC (.str y)) := q_c (v := .str y) (pe_glob hg hm ⟨t, rfl⟩ hd) fun _ _ => to_str

def pTup (f : PTA) : PTE := fun E ρ S Q => f E ρ S fun xs S1 => xs.length ≤ 16777216 ∧ Q (.tup xs) S1
def pLst (f : PTA) : PTE := fun E ρ S Q => f E ρ S fun xs S1 => xs.length ≤ 16777216 ∧ Q (.lst S1.length) (S1 ++ [xs])
end
section
variable {K : PySem.W.Frag} {bk : BagKind} {M : Am} {S : Store} {H : Hp}
theorem Sto.fresh {p : Addr} (s : Sto K bk M S H) (hp : H p = none) : p ∉ M.m ∧ p ∉ own? M.bag := by
  constructor
  · intro h; obtain ⟨vs, e, _⟩ := s.st.mem h; rw [hp] at e; cases e
  · intro h; obtain ⟨vs, e⟩ := s.memO h; rw [hp] at e; cases e
/-- the bag stands while nothing of its own is changed -/
theorem BagOk.keep {r0 : BagKind} {H' : Hp} {o : Option (List Addr)} (b : BagOk r0 H o) (h : ∀ a ∈ own? o, ∀ x, H a = some x → H' a = some x) : BagOk r0 H' o := by
  cases o with
  | none => trivial
  | some own =>
    obtain ⟨nd, lt, cs, sh, hl, t⟩ := b
    refine ⟨nd, lt, cs, sh, hl, fun n a e => ?_⟩
    obtain ⟨c, e1, e2⟩ := t n a e
    exact ⟨c, e1, h a (List.mem_of_getElem? e) _ e2⟩
theorem Sto.bagS {M' : Am} {H' : Hp} (s : Sto K bk M S H) (t : Step M H M' H') (h : ∀ a ∈ own? M.bag, ∀ x, H a = some x → H' a = some x) : BagOk bk H' M'.bag := by
  rw [t.bag]
  exact s.bag.keep h
/-- a table stays where something else is laid -/
theorem Tbl.upd {p b : Addr} {o : HO} (h : Tbl H b) (hp : ∀ ps, H p ≠ some (.tbl ps)) : Tbl (upd H p o) b := by
  obtain ⟨ps, e, t⟩ := h
  exact ⟨ps, by rw [upd_ne (fun z => hp ps (by rw [← z]; exact e))]; exact e, t⟩
theorem Tbl.lay {p b : Addr} {o : HO} (h : Tbl H b) (hp : H p = none) : Tbl (L2.upd H p o) b := h.upd fun ps z => by rw [hp] at z; cases z
/-- a new object that is no list of the store -/
theorem Step.laid {p : Addr} {o : HO} (hp : H p = none) : Step M H M (upd H p o) :=
  ⟨⟨[], by simp⟩, ⟨[], by simp⟩, rfl, fun b x _ _ _ h => by rw [upd_ne (ne_of_none h hp)]; exact h, fun b h => h.lay hp, fun b h => by
    by_cases e : b = p
    · rw [e, upd_same]; exact fun z => by cases z
    · rw [upd_ne e]; exact h, fun b h h' => absurd h h'⟩
theorem Sto.laid {p : Addr} {o : HO} (s : Sto K bk M S H) (hp : H p = none) : Sto K bk M S (upd H p o) := by
  have t : Step M H M (upd H p o) := Step.laid hp
  refine ⟨⟨s.st.len, s.st.lenk, s.st.nd, fun n xs e => ?_⟩, s.bagS t fun a _ x e => by rw [upd_ne (ne_of_none e hp)]; exact e, s.apart, fun P hP => t.tab P (s.tabs P hP)⟩
  obtain ⟨a, c, ob, e1, ek, e2, e3⟩ := s.st.at_ n xs e
  exact ⟨a, c, ob, e1, ek, by rw [upd_ne (ne_of_none e2 hp)]; exact e2, e3.step s t⟩
/-- a new list, dict, instance of the store -/
theorem Step.push {p : Addr} {o : HO} {c : Kd} (hp : H p = none) : Step M H ⟨M.m ++ [p], M.bag, M.k ++ [c]⟩ (upd H p o) :=
  ⟨⟨[p], rfl⟩, ⟨[c], rfl⟩, rfl, fun b x _ _ _ h => by rw [upd_ne (ne_of_none h hp)]; exact h, fun b h => h.lay hp, fun b h => by
    by_cases e : b = p
    · rw [e, upd_same]; exact fun z => by cases z
    · rw [upd_ne e]; exact h, fun b h h' => by
    rcases List.mem_append.mp h with h | h
    · exact absurd h h'
    · simp at h; rw [h]; exact hp⟩
theorem Sto.pushC {p : Addr} {c : Kd} {xs : List PV} {o : HO} (s : Sto K bk M S H) (hp : H p = none) (r : Cell K bk.root ⟨M.m ++ [p], M.bag, M.k ++ [c]⟩ (upd H p o) c xs o) : Sto K bk ⟨M.m ++ [p], M.bag, M.k ++ [c]⟩ (S ++ [xs]) (upd H p o) := by
  have t : Step M H ⟨M.m ++ [p], M.bag, M.k ++ [c]⟩ (upd H p o) := Step.push hp
  obtain ⟨f1, f2⟩ := s.fresh hp
  refine ⟨⟨by simp [s.st.len], by simp [s.st.lenk], ?_, fun n ys e => ?_⟩, s.bagS t fun a _ x e => by rw [upd_ne (ne_of_none e hp)]; exact e, fun b hb => ?_, fun P hP => t.tab P (s.tabs P hP)⟩
  · show (M.m ++ [p]).Nodup
    rw [List.nodup_append]
    exact ⟨s.st.nd, by simp, fun a ha b hb => by simp at hb; rw [hb]; intro z; rw [z] at ha; exact f1 ha⟩
  · by_cases hn : n < S.length
    · rw [List.getElem?_append_left hn] at e
      obtain ⟨a, d, ob, e1, ek, e2, e3⟩ := s.st.at_ n ys e
      refine ⟨a, d, ob, ?_, ?_, by rw [upd_ne (ne_of_none e2 hp)]; exact e2, e3.step s t⟩
      · show (M.m ++ [p])[n]? = some a
        rw [List.getElem?_append_left (by rw [s.st.len]; exact hn)]; exact e1
      · show (M.k ++ [c])[n]? = some d
        rw [List.getElem?_append_left (by rw [s.st.lenk]; exact hn)]; exact ek
    · have hn' : n = S.length := by
        have := (List.getElem?_eq_some_iff.mp e).1
        simp at this; omega
      subst hn'
      simp at e
      subst e
      refine ⟨p, c, o, ?_, ?_, upd_same, r⟩
      · show (M.m ++ [p])[S.length]? = some p
        rw [← s.st.len]; simp
      · show (M.k ++ [c])[S.length]? = some c
        rw [← s.st.lenk]; simp
  · rcases List.mem_append.mp hb with h | h
    · exact s.apart b h
    · simp at h; rw [h]; exact f2
/-- where a new list stands -/
abbrev Am.add (M : Am) (p : Addr) : Am := ⟨M.m ++ [p], M.bag, M.k ++ [.lst]⟩
theorem Sto.push {p : Addr} {xs : List PV} {vs : List V} (s : Sto K bk M S H) (hp : H p = none) (r : Rps K bk.root M H xs vs) : Sto K bk (M.add p) (S ++ [xs]) (upd H p (.lst vs)) :=
  s.pushC hp ⟨vs, rfl, r.step s (Step.push hp)⟩
theorem Sto.new_at {p : Addr} (s : Sto K bk M S H) : LsAt (M.add p) S.length p := by
  refine ⟨?_, ?_⟩
  · show (M.m ++ [p])[S.length]? = some p
    rw [← s.st.len]; simp
  · show (M.k ++ [Kd.lst])[S.length]? = some Kd.lst
    rw [← s.st.lenk]; simp
theorem LsAt.at {M' : Am} {H' : Hp} {n : Nat} {a : Addr} (h : LsAt M n a) (t : Step M H M' H') : LsAt M' n a := by
  obtain ⟨l, e⟩ := t.pre
  obtain ⟨j, f⟩ := t.prek
  refine ⟨?_, ?_⟩
  · rw [e, List.getElem?_append_left (List.getElem?_eq_some_iff.mp h.1).1]; exact h.1
  · rw [f, List.getElem?_append_left (List.getElem?_eq_some_iff.mp h.2).1]; exact h.2
theorem Sto.lst {n : Nat} {a : Addr} {xs : List PV} (s : Sto K bk M S H) (ea : LsAt M n a) (e1 : S[n]? = some xs) : ∃ vs, H a = some (.lst vs) ∧ Rps K bk.root M H xs vs := by
  obtain ⟨b, c, o, e2, e3, e4, e5⟩ := s.st.at_ _ _ e1
  rw [ea.1] at e2
  rw [ea.2] at e3
  cases e2
  cases e3
  obtain ⟨vs, rfl, q⟩ := e5
  exact ⟨vs, e4, q⟩
/-- what stands at a place of the store is changed -/
theorem Sto.writeC {n : Nat} {a : Addr} {c : Kd} {xs : List PV} {o : HO} (s : Sto K bk M S H) (hn : M.m[n]? = some a) (hk : M.k[n]? = some c) (r : ∀ H', Step M H M H' → Cell K bk.root M H' c xs o) : Step M H M (upd H a o) ∧ Sto K bk M (S.set n xs) (upd H a o) := by
  have ha : a ∈ M.m := List.mem_of_getElem? hn
  have hl : n < S.length := by rw [← s.st.len]; exact (List.getElem?_eq_some_iff.mp hn).1
  have hnt : ∀ ps, H a ≠ some (.tbl ps) := fun ps z => by
    obtain ⟨o', e, m⟩ := s.st.mem ha
    rw [z] at e
    cases e
    exact m
  have t : Step M H M (upd H a o) := ⟨⟨[], by simp⟩, ⟨[], by simp⟩, rfl, fun b x h1 h2 _ h => by rw [upd_ne (fun z => h1 (by rw [z]; exact ha))]; exact h, fun b h => h.upd hnt, fun b h => by
    by_cases e : b = a
    · rw [e, upd_same]; exact fun z => by cases z
    · rw [upd_ne e]; exact h, fun b h h' => absurd h h'⟩
  refine ⟨t, ⟨by simp [s.st.len], by simp [s.st.lenk], s.st.nd, fun j ys e => ?_⟩, s.bagS t fun b hb x e => ?_, s.apart, fun P hP => t.tab P (s.tabs P hP)⟩
  · by_cases hj : n = j
    · subst hj
      rw [List.getElem?_set_self hl] at e
      have e' := Option.some.inj e; subst e'
      exact ⟨a, c, o, hn, hk, upd_same, r _ t⟩
    · rw [List.getElem?_set_ne hj] at e
      obtain ⟨b, d, ob, e1, ek, e2, e3⟩ := s.st.at_ j ys e
      refine ⟨b, d, ob, e1, ek, ?_, e3.step s t⟩
      rw [upd_ne]
      · exact e2
      · rintro rfl
        exact hj (nd_ix s.st.nd hn e1)
  · rw [upd_ne]
    · exact e
    · rintro rfl; exact s.apart _ ha hb
/-- a list of the store is changed -/
theorem Sto.write {n : Nat} {a : Addr} {xs : List PV} {vs : List V} (s : Sto K bk M S H) (hn : LsAt M n a) (r : Rps K bk.root M H xs vs) : Step M H M (upd H a (.lst vs)) ∧ Sto K bk M (S.set n xs) (upd H a (.lst vs)) :=
  s.writeC hn.1 hn.2 fun H' t => ⟨vs, rfl, r.step s t⟩
theorem to_tup {xs : List PV} {vs : List V} {a : Addr} {r : Nat} (h : SqT K H a vs) (h' : Rps K r M H xs vs) : Rp K r M H (.tup xs) (.ref a) := by rw [Rp]; exact ⟨a, vs, rfl, h, h'⟩
theorem to_lst {n : Nat} {a : Addr} {r : Nat} (h : LsAt M n a) : Rp K r M H (.lst n) (.ref a) := by rw [Rp]; exact ⟨a, h.1, h.2, rfl⟩
/-- ends: a new tuple, a new list -/
theorem Post.tup {Q Q'} {xs : List PV} {vs : List V} (p : Post bk K M H Q Q') (s : Sto K bk M S H) (r : Rps K bk.root M H xs vs) (q : Q (.tup xs) S) : ∀ a, H a = none → Q' (.ref a) (upd H a (.tup vs)) := fun a ha =>
  p M S (upd H a (.tup vs)) (.tup xs) (.ref a) (Step.laid ha) (s.laid ha) (to_tup (SqT.of upd_same) (r.step s (Step.laid ha))) q
theorem Post.lst {Q Q'} {xs : List PV} {vs : List V} (p : Post bk K M H Q Q') (s : Sto K bk M S H) (r : Rps K bk.root M H xs vs) (q : Q (.lst S.length) (S ++ [xs])) : ∀ a, H a = none → Q' (.ref a) (upd H a (.lst vs)) := fun a ha =>
  p (M.add a) (S ++ [xs]) (upd H a (.lst vs)) (.lst S.length) (.ref a) (Step.push ha) (s.push ha r) (to_lst s.new_at) q
end
section
variable {bk : BagKind} {X : Cx} {pos : Pos}
theorem szl : sizeLine = 16777216 := sizeLine_eq
theorem q_tup {es : List Expr} {f : PTA} {x1} (h : QA bk X es f) : QE bk X (.Tuple es x1 pos) (pTup f) := by
  obtain ⟨ta, pa, wa⟩ := h.ex
  refine ⟨_, pe_tup pa, fun E M ρ S σ H Q Q' R q p => ?_⟩
  refine wa E M ρ S σ H _ _ R q fun M1 S1 H1 x v t1 s1 r1 q1 => ⟨by rw [r1.length, szl]; exact q1.1, ?_⟩
  exact (p.after t1).tup s1 r1 q1.2
theorem q_lst {es : List Expr} {f : PTA} (h : QA bk X es f) : QE bk X (.List es pos) (pLst f) := by
  obtain ⟨ta, pa, wa⟩ := h.ex
  refine ⟨_, pe_lst pa, fun E M ρ S σ H Q Q' R q p => ?_⟩
  refine wa E M ρ S σ H _ _ R q fun M1 S1 H1 x v t1 s1 r1 q1 => ⟨by rw [r1.length, szl]; exact q1.1, ?_⟩
  exact (p.after t1).lst s1 r1 q1.2
end

/-! ### statements -/
def pNext : PTS := fun _ D ρ S => D.nx ρ S
def pSeq (f g : PTS) : PTS := fun E D ρ S => f E { D with nx := g E D } ρ S
def pRet (f : PTE) : PTS := fun E D ρ S => f E ρ S D.rt
def pRetN : PTS := fun _ D _ S => D.rt .non S
def pBreak : PTS := fun _ D ρ S => D.bk ρ S
def pCont : PTS := fun _ D ρ S => D.ct ρ S
def pDrop (f : PTE) : PTS := fun E D ρ S => f E ρ S fun _ S1 => D.nx ρ S1
def pIfS (c : PTT) (f g : PTS) : PTS := fun E D ρ S => c E ρ S fun b S1 => Br b (f E D ρ S1) (g E D ρ S1)
def pNever : PTS := fun _ _ _ _ => False
def pSet (i : Nat) (f : PTE) : PTS := fun E D ρ S => f E ρ S fun x S1 => D.nx (ρ.set i (some x)) S1
def pAsg (f : PTE) (g : PTG) : PTS := fun E D ρ S => f E ρ S fun x S1 => g E x ρ S1 D.nx
def pAug (i : Nat) (o : PO2) (f : PTE) : PTS := fun E D ρ S => match ρ[i]? with | some (some x) => f E ρ S fun y S1 => o x y S1 fun z S2 => D.nx (ρ.set i (some z)) S2 | _ => False
def gN (i : Nat) : PTG := fun _ x ρ S Q => Q (ρ.set i (some x)) S
abbrev PTGs := XW → List PV → PEnv → Store → (PEnv → Store → Prop) → Prop
def gsNil : PTGs := fun _ xs ρ S Q => match xs with | [] => Q ρ S | _ => False
def gsCons (g : PTG) (h : PTGs) : PTGs := fun E xs ρ S Q => match xs with | x :: ys => g E x ρ S fun ρ1 S1 => h E ys ρ1 S1 Q | [] => False
def gT (n : Nat) (h : PTGs) : PTG := fun E x ρ S Q => match x with | .tup xs => xs.length = n ∧ h E xs ρ S Q | _ => False
section
variable {bk : BagKind} {X : Cx} {pos : Pos} {st : Stmt} {rest : List Stmt} {f g : PTS} {e : Expr} {h : PTE}
theorem qs_nil : QSs bk X [] pNext := ⟨_, pss_nil, fun E M ρ S σ H D D' R q p => p.nx M ρ S σ H (.refl M H) R q⟩
theorem qs_cons (h1 : QS bk X st f) (h2 : QSs bk X rest g) : QSs bk X (st :: rest) (pSeq f g) := by
  obtain ⟨ta, pa, wa⟩ := h1.ex
  obtain ⟨tb, pb, wb⟩ := h2.ex
  refine ⟨_, pss_cons pa pb, fun E M ρ S σ H D D' R q p => ?_⟩
  exact wa E M ρ S σ H _ _ R q ⟨fun M1 ρ1 S1 σ1 H1 t1 R1 q1 => wb E M1 ρ1 S1 σ1 H1 _ _ R1 q1 (p.after t1), p.rt, p.br, p.ct⟩
theorem qs_one (h1 : QS bk X st f) : QSs bk X [st] f := by
  obtain ⟨ta, pa, wa⟩ := h1.ex
  exact ⟨_, pss_one pa, wa⟩
theorem q_ret (he : QE bk X e h) : QS bk X (.Return (some e) pos) (pRet h) := by
  obtain ⟨ta, pa, wa⟩ := he.ex
  exact ⟨_, ps_ret pa, fun E M ρ S σ H D D' R q p => wa E M ρ S σ H _ _ R q p.rt⟩
theorem q_retN : QS bk X (.Return none pos) pRetN := ⟨_, ps_retN, fun E M ρ S σ H D D' R q p => p.rt M S H _ _ (.refl M H) R.sto to_non q⟩
theorem q_pass : QS bk X (.Pass pos) pNext := ⟨_, ps_pass, fun E M ρ S σ H D D' R q p => p.nx M ρ S σ H (.refl M H) R q⟩
theorem q_break : QS bk X (.Break pos) pBreak := ⟨_, ps_break, fun E M ρ S σ H D D' R q p => p.br M ρ S σ H (.refl M H) R q⟩
theorem q_cont : QS bk X (.Continue pos) pCont := ⟨_, ps_continue, fun E M ρ S σ H D D' R q p => p.ct M ρ S σ H (.refl M H) R q⟩
theorem q_doc {x j pos'} : QS bk X (.Expr (.Constant (.str x) j pos) pos') pNext := ⟨_, ps_doc, fun E M ρ S σ H D D' R q p => p.nx M ρ S σ H (.refl M H) R q⟩
theorem q_drop (he : QE bk X e h) (hs : swapsWith e none pos.line X.env = pure false := by rfl) : QS bk X (.Expr e pos) (pDrop h) := by
  obtain ⟨ta, pa, wa⟩ := he.ex
  exact ⟨_, ps_expr pa hs, fun E M ρ S σ H D D' R q p => wa E M ρ S σ H _ _ R q fun M1 S1 H1 x v t1 s1 r1 q1 => p.nx M1 ρ S1 σ H1 t1 (R.step t1 s1) q1⟩
theorem q_ifS {c : Expr} {a b : List Stmt} {fc : PTT} (hc : QT bk X c fc) (ha : QSs bk X a f) (hb : QSs bk X b g) : QS bk X (.If c a b pos) (pIfS fc f g) := by
  obtain ⟨tc, pc, wc⟩ := hc.ex
  obtain ⟨ta, pa, wa⟩ := ha.ex
  obtain ⟨tb, pb, wb⟩ := hb.ex
  refine ⟨_, ps_if pc pa pb, fun E M ρ S σ H D D' R q p => ?_⟩
  refine wc E M ρ S σ H _ _ R q fun M1 S1 H1 d t1 s1 q1 => ?_
  cases d with
  | true => exact wa E M1 ρ S1 σ H1 _ _ (R.step t1 s1) q1 (p.after t1)
  | false => exact wb E M1 ρ S1 σ H1 _ _ (R.step t1 s1) q1 (p.after t1)
theorem q_never : QS bk X st pNever := ⟨_, ps_never, fun _ _ _ _ _ _ _ _ _ q _ => q.elim⟩
theorem q_set {i : Nat} {x : Str} {pos' : Pos} (hN : X.N.Nodup) (hi : X.N[i]? = some x) (hx : Loc X.env.scope x) (he : QE bk X e h) (hs : swapsWith e (some (.Name x pos')) pos.line X.env = pure false := by rfl)
    (hf : X.fn x = true ∨ X.env.scope.names.lookup x = some .local := by first | exact .inl rfl | exact .inr rfl | assumption) : QS bk X (.Assign [.Name x pos'] e pos) (pSet i h) := by
  obtain ⟨ta, pa, wa⟩ := he.ex
  exact ⟨_, ps_set hN hi hx pa hs hf, fun E M ρ S σ H D D' R q p => wa E M ρ S σ H _ _ R q fun M1 S1 H1 x v t1 s1 r1 q1 => p.nx M1 _ S1 _ H1 t1 ((R.step t1 s1).set i r1) q1⟩
theorem q_asg {tg : Expr} {g : PTG} (he : QE bk X e h) (hg : QG bk X tg g) (hs : swapsWithSole [tg] e pos.line X.env = pure false := by rfl) (hw : swappedStores [tg] e X.env = pure none := by rfl)
    (h1 : (assignEach [tg] X.env).map (·.2) = [assign tg X.env] := by rfl) : QS bk X (.Assign [tg] e pos) (pAsg h g) := by
  obtain ⟨ta, pa, wa⟩ := he.ex
  obtain ⟨tb, pb, wb⟩ := hg.ex
  exact ⟨_, ps_asg pa pb hs hw h1, fun E M ρ S σ H D D' R q p => wa E M ρ S σ H _ _ R q fun M1 S1 H1 x v t1 s1 r1 q1 => wb E M1 ρ S1 σ H1 x v _ _ (R.step t1 s1) r1 q1 (p.after t1).nx⟩
def PIpP (bk : BagKind) (K : PySem.W.Frag) (t : TIp) (o : PO2) : Prop := OpP bk K t o
theorem q_aug {i : Nat} {x : Str} {op : Operator} {ti : TIp} {o : PO2} {pos' : Pos} (hN : X.N.Nodup) (hi : X.N[i]? = some x) (hx : Loc X.env.scope x) (he : QE bk X e h) (ho : OpR X (inplaceOp op) ti) (hp : OpP bk X.K ti o)
    (hf : X.fn x = true ∨ X.env.scope.names.lookup x = some .local := by first | exact .inl rfl | exact .inr rfl | assumption) : QS bk X (.AugAssign (.Name x pos') op e pos) (pAug i o h) := by
  obtain ⟨ta, pa, wa⟩ := he.ex
  refine ⟨_, ps_aug hN hi hx pa ho hf, fun E M ρ S σ H D D' R q p => ?_⟩
  unfold pAug at q
  split at q
  · rename_i y e1
    obtain ⟨v, e2, r⟩ := R.slots i y e1
    refine ⟨v, e2, wa E M ρ S σ H _ _ R q fun M1 S1 H1 z w t1 s1 r1 q1 => ?_⟩
    refine hp M1 S1 H1 y z v w _ _ s1 (r.step R.sto t1) r1 q1 fun M2 S2 H2 u u' t2 s2 r2 q2 => ?_
    exact p.nx M2 _ S2 _ H2 (t1.trans t2) (((R.step t1 s1).step t2 s2).set i r2) q2
  · exact q.elim
/-- targets -/
theorem g_name {i : Nat} {x : Str} (hN : X.N.Nodup) (hi : X.N[i]? = some x) (hx : Loc X.env.scope x) (hf : X.fn x = true ∨ X.env.scope.names.lookup x = some .local := by first | exact .inl rfl | exact .inr rfl | assumption) : QG bk X (.Name x pos) (gN i) :=
  ⟨_, pg_name hN hi hx hf, fun E M ρ S σ H x v Q Q' R r q p => p M _ S _ H (.refl M H) (R.set i r) q⟩
theorem g_nil : QGs bk X [] gsNil := by
  refine ⟨_, pgs_nil, fun E M ρ S σ H x v Q Q' R r q p => ?_⟩
  cases x with
  | nil => rw [Rps] at r; exact ⟨r, p M ρ S σ H (.refl M H) R q⟩
  | cons _ _ => exact q.elim
theorem g_cons {e : Expr} {es : List Expr} {t : PTG} {u : PTGs} (h1 : QG bk X e t) (h2 : QGs bk X es u)
    (hs : (assignEach (e :: es) X.env).map (·.2) = assign e X.env :: (assignEach es X.env).map (·.2) := by rfl) : QGs bk X (e :: es) (gsCons t u) := by
  obtain ⟨ta, pa, wa⟩ := h1.ex
  obtain ⟨tb, pb, wb⟩ := h2.ex
  refine ⟨_, pgs_cons pa pb hs, fun E M ρ S σ H x v Q Q' R r q p => ?_⟩
  cases x with
  | nil => exact q.elim
  | cons y ys =>
    rw [Rps] at r
    obtain ⟨w, ws, rfl, r1, r2⟩ := r
    refine ⟨w, ws, rfl, wa E M ρ S σ H y w _ _ R r1 q fun M1 ρ1 S1 σ1 H1 t1 R1 q1 => ?_⟩
    exact wb E M1 ρ1 S1 σ1 H1 ys ws _ _ R1 (r2.step R.sto t1) q1 (p.after t1)
theorem g_tup {es : List Expr} {k : Nat} {t : PTGs} {n : Nat} (hc : X.calm = true) (h : QGs bk X es t)
    (hn : (assignEach es X.env).length = n := by rfl) (hst : (assignEach es X.env).findIdx? (·.1) = none := by rfl) : QG bk X (.Tuple es k pos) (gT n t) := by
  obtain ⟨ta, pa, wa⟩ := h.ex
  refine ⟨_, pg_tup hc pa hn hst, fun E M ρ S σ H x v Q Q' R r q p => ?_⟩
  cases x <;> first | exact q.elim | skip
  rename_i xs
  obtain ⟨a, vs, e, s, r⟩ := rp_tup r
  exact ⟨a, vs, e, s, r.length.trans q.1, wa E M ρ S σ H xs vs _ _ R r q.2 p⟩
end

/-! ### loops -/
structure PIter where
  items : List PV
  chk : Store → Prop := fun _ => True
abbrev PTI := XW → PEnv → Store → (PIter → Store → Prop) → Prop
def ItOk (bk : BagKind) (K : PySem.W.Frag) (it : PIter) (J : It) (M0 : Am) (H0 : Hp) : Prop := ∀ M S H k, Step M0 H0 M H → Sto K bk M S H → it.chk S →
  (∀ x, it.items[k]? = some x → J.go k H ∧ ∀ v H', J.yld k H v H' → Step M H M H' ∧ Sto K bk M S H' ∧ Rp K bk.root M H' x v) ∧ (it.items[k]? = none → J.stop k H)
structure QI (bk : BagKind) (X : Cx) (tg e : Expr) (f : PTI) : Prop where
  ex : ∃ t, PI X tg e t ∧ ∀ (E : XW) M ρ S σ H R R', Rel X.K bk M ρ S σ H → f E ρ S R → (∀ M' S' H' it J, Step M H M' H' → Sto X.K bk M' S' H' → ItOk bk X.K it J M' H' → R it S' → R' J H') → t σ H R'
def pForL (chk : Store → Prop) (g : PTG) (b : PTS) (E : XW) (D : PEnds) : List PV → PEnv → Store → Prop
  | [], ρ, S => chk S ∧ D.nx ρ S
  | x :: xs, ρ, S => chk S ∧ g E x ρ S fun ρ1 S1 => b E { D with nx := pForL chk g b E D xs, ct := pForL chk g b E D xs, bk := D.nx } ρ1 S1
def pFor (i : PTI) (g : PTG) (b : PTS) : PTS := fun E D ρ S => i E ρ S fun it S1 => pForL it.chk g b E D it.items ρ S1
def pWhile (c : PTT) (b : PTS) : PTS := fun E D ρ S => ∃ W : Nat → PEnv → Store → Prop, (∃ k, W k ρ S) ∧ ∀ k ρ S, W k ρ S →
  c E ρ S fun t S1 => Br t (b E { D with nx := fun ρ' S' => ∃ k', k' < k ∧ W k' ρ' S', ct := fun ρ' S' => ∃ k', k' < k ∧ W k' ρ' S', bk := D.nx } ρ S1) (D.nx ρ S1)
section
variable {bk : BagKind} {X : Cx} {pos : Pos} {f g : PTS} {e : Expr} {h : PTE}
theorem q_for {tg iter : Expr} {body : List Stmt} {i : PTI} {g : PTG} {b : PTS} (hp : PassesOwn (model X.prog X.w) X.A X.env X.xe) (hc : X.calm = true) (hi : QI bk X tg iter i) (hg : QG bk X tg g) (hb : QSs bk X body b)
    (hs : ∀ x, foldedSetIterable iter X.env x = pure x := by intro _; rfl) : QS bk X (.For tg iter body [] pos) (pFor i g b) := by
  obtain ⟨ti, pi, wi⟩ := hi.ex
  obtain ⟨tg', pg, wg⟩ := hg.ex
  obtain ⟨tb, pb, wb⟩ := hb.ex
  refine ⟨_, ps_for hp hc pi pg pb hs, fun E M ρ S σ H D D' R q p => ?_⟩
  refine wi E M ρ S σ H _ _ R q fun M1 S1 H1 it J t1 s1 ok q1 => ?_
  refine ⟨fun i k σ H => k = it.items.length - i ∧ i ≤ it.items.length ∧ ∃ M2 ρ2 S2, Step M1 H1 M2 H ∧ Rel X.K bk M2 ρ2 S2 σ H ∧ pForL it.chk g b E D (it.items.drop i) ρ2 S2,
    ⟨_, rfl, Nat.zero_le _, M1, ρ, S1, .refl M1 H1, R.step t1 s1, q1⟩, ?_⟩
  rintro i k σ2 H2 ⟨rfl, hi, M2, ρ2, S2, t2, R2, q2⟩
  by_cases hlt : i < it.items.length
  · rw [List.drop_eq_getElem_cons hlt] at q2
    obtain ⟨hck, q2⟩ := q2
    obtain ⟨hgo, hy⟩ := (ok M2 S2 H2 i t2 R2.sto hck).1 it.items[i] (by simp [hlt])
    refine .inr ⟨hgo, fun σ' H' => ∃ M3 ρ3 S3, Step M1 H1 M3 H' ∧ Rel X.K bk M3 ρ3 S3 σ' H' ∧ pForL it.chk g b E D (it.items.drop (i + 1)) ρ3 S3, fun σ' H' z => ⟨_, by omega, rfl, hlt, z⟩, fun v H3 y => ?_⟩
    obtain ⟨t3, s3, r3⟩ := hy v H3 y
    refine wg E M2 ρ2 S2 σ2 H3 _ v _ _ (R2.step t3 s3) r3 q2 fun M4 ρ4 S4 σ4 H4 t4 R4 q4 => ?_
    have tt : Step M H M4 H4 := t1.trans (t2.trans (t3.trans t4))
    refine wb E M4 ρ4 S4 σ4 H4 _ _ R4 q4 ⟨fun M5 ρ5 S5 σ5 H5 t5 R5 q5 => ⟨M5, ρ5, S5, t2.trans (t3.trans (t4.trans t5)), R5, q5⟩, (p.after tt).rt, (p.after tt).nx, fun M5 ρ5 S5 σ5 H5 t5 R5 q5 => ⟨M5, ρ5, S5, t2.trans (t3.trans (t4.trans t5)), R5, q5⟩⟩
  · have e : i = it.items.length := by omega
    subst e
    rw [List.drop_length] at q2
    obtain ⟨hck, q2⟩ := q2
    exact .inl ⟨(ok M2 S2 H2 _ t2 R2.sto hck).2 (by simp), p.nx M2 ρ2 S2 σ2 H2 (t1.trans t2) R2 q2⟩
theorem q_while {c : Expr} {body : List Stmt} {fc : PTT} {b : PTS} (hp : PassesOwn (model X.prog X.w) X.A X.env X.xe) (hc : QT bk X c fc) (hb : QSs bk X body b) : QS bk X (.While c body [] pos) (pWhile fc b) := by
  obtain ⟨tc, pc, wc⟩ := hc.ex
  obtain ⟨tb, pb, wb⟩ := hb.ex
  refine ⟨_, ps_while hp pc pb, fun E M ρ S σ H D D' R q p => ?_⟩
  obtain ⟨W, ⟨k0, w0⟩, turn⟩ := q
  refine ⟨fun k σ H' => ∃ M1 ρ1 S1, Step M H M1 H' ∧ Rel X.K bk M1 ρ1 S1 σ H' ∧ W k ρ1 S1, ⟨k0, M, ρ, S, .refl M H, R, w0⟩, ?_⟩
  rintro k σ1 H1 ⟨M1, ρ1, S1, t1, R1, w1⟩
  refine wc E M1 ρ1 S1 σ1 H1 _ _ R1 (turn k ρ1 S1 w1) fun M2 S2 H2 d t2 s2 q2 => ?_
  cases d with
  | true =>
    rw [if_pos rfl]
    have tt := t1.trans t2
    refine ⟨fun σ' H' => ∃ k', k' < k ∧ ∃ M3 ρ3 S3, Step M H M3 H' ∧ Rel X.K bk M3 ρ3 S3 σ' H' ∧ W k' ρ3 S3, fun _ _ z => z, ?_⟩
    refine wb E M2 ρ1 S2 σ1 H2 _ _ (R1.step t2 s2) q2 ⟨?_, (p.after tt).rt, (p.after tt).nx, ?_⟩
    · rintro M3 ρ3 S3 σ3 H3 t3 R3 ⟨k', hk, w3⟩
      exact ⟨k', hk, M3, ρ3, S3, tt.trans t3, R3, w3⟩
    · rintro M3 ρ3 S3 σ3 H3 t3 R3 ⟨k', hk, w3⟩
      exact ⟨k', hk, M3, ρ3, S3, tt.trans t3, R3, w3⟩
  | false =>
    rw [if_neg Bool.false_ne_true]
    exact p.nx M2 ρ1 S2 σ1 H2 (t1.trans t2) (R1.step t2 s2) q2
/-- what is walked -/
def iRange1 (f : PTE) : PTI := fun E ρ S R => f E ρ S fun x S1 => match x with
  | .int j => -(2 ^ 62) ≤ j ∧ j < 2 ^ 62 ∧ R ⟨(List.range j.toNat).map fun (i : Nat) => PV.int i, fun _ => True⟩ S1 | _ => False
def iRange2 (f g : PTE) : PTI := fun E ρ S R => f E ρ S fun x S1 => g E ρ S1 fun y S2 => match x, y with
  | .int i, .int j => (-(2 ^ 62) ≤ i ∧ i < 2 ^ 62 ∧ -(2 ^ 62) ≤ j ∧ j < 2 ^ 62) ∧ R ⟨(List.range (j - i).toNat).map fun (k : Nat) => PV.int (i + k), fun _ => True⟩ S2 | _, _ => False
theorem itok_range {K : PySem.W.Frag} {M0 : Am} {H0 : Hp} {lo : Int} {n : Nat} : ItOk bk K ⟨(List.range n).map fun (k : Nat) => PV.int (lo + k), fun _ => True⟩ (Itr lo n) M0 H0 := by
  intro M S H k t s _
  refine ⟨fun x e => ?_, fun e => ?_⟩
  · simp only [List.getElem?_map, Option.map_eq_some_iff] at e
    obtain ⟨j, e1, e2⟩ := e
    have hk : k < n := by
      have := (List.getElem?_eq_some_iff.mp e1).1
      simpa using this
    have : j = k := by
      have h2 := (List.getElem?_eq_some_iff.mp e1).2
      simpa using h2.symm
    subst this
    refine ⟨hk, fun v H' y => ?_⟩
    obtain ⟨rfl, rfl⟩ := y
    subst e2
    exact ⟨.refl M _, s, to_int⟩
  · show n ≤ k
    simpa using e
theorem qi_range1 {tg a : Expr} {p : Pos} (hg : Gl X "range") (hm : X.mg "range" = none) (ha : QE bk X a h) (hs : starEach [a] X.env = [(false, eval a X.env)] := by rfl) (he : starEach (a :: []) X.env = (false, eval a X.env) :: starEach [] X.env := by rfl) :
    QI bk X tg (.Call (.Name "range" p) [a] [] pos) (iRange1 h) := by
  obtain ⟨ta, pa, wa⟩ := ha.ex
  refine ⟨_, pi_range1 hg hm (pa_cons pa pa_nil he) hs, fun E M ρ S σ H R R' rel q k => ?_⟩
  refine wa E M ρ S σ H _ _ rel q fun M1 S1 H1 x v t1 s1 r1 q1 => ?_
  cases x <;> first | exact q1.elim | skip
  rename_i j
  have e := rp_int r1
  subst e
  refine ⟨j, rfl, q1.1, q1.2.1, k M1 S1 H1 _ _ t1 s1 ?_ q1.2.2⟩
  have := itok_range (bk := bk) (K := X.K) (M0 := M1) (H0 := H1) (lo := 0) (n := j.toNat)
  simpa using this
theorem qi_range2 {tg a b : Expr} {p : Pos} {h2 : PTE} (hg : Gl X "range") (hm : X.mg "range" = none) (ha : QE bk X a h) (hb : QE bk X b h2)
    (hs : starEach [a, b] X.env = [(false, eval a X.env), (false, eval b X.env)] := by rfl) (hs2 : starEach [b] X.env = [(false, eval b X.env)] := by rfl) (he : starEach [a, b] X.env = (false, eval a X.env) :: starEach [b] X.env := by rfl) (he2 : starEach (b :: []) X.env = (false, eval b X.env) :: starEach [] X.env := by rfl) :
    QI bk X tg (.Call (.Name "range" p) [a, b] [] pos) (iRange2 h h2) := by
  obtain ⟨ta, pa, wa⟩ := ha.ex
  obtain ⟨tb, pb, wb⟩ := hb.ex
  refine ⟨_, pi_range2 hg hm (pa_cons pa (pa_cons pb pa_nil he2) he) hs hs2, fun E M ρ S σ H R R' rel q k => ?_⟩
  refine wa E M ρ S σ H _ _ rel q fun M1 S1 H1 x v t1 s1 r1 q1 => ?_
  refine wb E M1 ρ S1 σ H1 _ _ (rel.step t1 s1) q1 fun M2 S2 H2 y w t2 s2 r2 q2 => ?_
  cases x <;> cases y <;> first | exact q2.elim | skip
  rename_i i j
  have e := rp_int r1
  have e' := rp_int r2
  subst e e'
  exact ⟨i, j, rfl, q2.1, k M2 S2 H2 _ _ (t1.trans t2) s2 itok_range q2.2⟩
/-- a value's items: a tuple's, a list's of the store, of a read list -/
def iVal (f : PTE) : PTI := fun E ρ S R => f E ρ S fun x S1 => match x with
  | .lst n => onO S1[n]? fun xs => R ⟨xs, fun S => S[n]? = some xs⟩ S1
  | .rol xs => R ⟨xs, fun _ => True⟩ S1
  | _ => False
def iTupV (f : PTE) : PTI := fun E ρ S R => f E ρ S fun x S1 => match x with
  | .tup xs => R ⟨xs, fun _ => True⟩ S1
  | _ => False
theorem qi_list {tg a : Expr} (ha : QE bk X a h) : QI bk X tg a (iVal h) := by
  obtain ⟨ta, pa, wa⟩ := ha.ex
  refine ⟨_, pi_list pa, fun E M ρ S σ H R R' rel q k => ?_⟩
  refine wa E M ρ S σ H _ _ rel q fun M1 S1 H1 x v t1 s1 r1 q1 => ?_
  cases x <;> first | exact q1.elim | skip
  · rename_i n
    obtain ⟨xs, e1, q1⟩ := onO_ex q1
    obtain ⟨a, ea, rfl⟩ := rp_lst r1
    obtain ⟨vs, eh, rs⟩ := s1.lst ea e1
    refine ⟨a, rfl, ⟨vs, .inl (.inl eh)⟩, k M1 S1 H1 _ _ t1 s1 (fun M S H k t s ck => ?_) q1⟩
    obtain ⟨ws, ehb, rsb⟩ := s.lst (ea.at t) ck
    refine ⟨fun x e => ?_, fun e => ⟨ws, .inl (.inl ehb), ?_⟩⟩
    · obtain ⟨w, ew, rw'⟩ := rsb.get e
      refine ⟨⟨ws, w, .inl (.inl ehb), ew⟩, fun v H' y => ?_⟩
      obtain ⟨rfl, y⟩ := y
      have := y ws (.inl (.inl ehb))
      rw [ew] at this
      obtain rfl := Option.some.inj this
      exact ⟨.refl M _, s, rw'⟩
    · rw [rsb.length]; simpa using e
  · rename_i xs
    obtain ⟨a, vs, rfl, fz, rs⟩ := rp_rol r1
    refine ⟨a, rfl, ⟨vs, fz.sq⟩, k M1 S1 H1 _ _ t1 s1 (fun M S H k t s ck => ?_) q1⟩
    have kp := s1.kp t
    have fz' := (kp.l a vs fz).sq
    have rs' := rs.kp kp
    refine ⟨fun x e => ?_, fun e => ⟨vs, fz', ?_⟩⟩
    · obtain ⟨w, ew, rw'⟩ := rs'.get e
      refine ⟨⟨vs, w, fz', ew⟩, fun v H' y => ?_⟩
      obtain ⟨rfl, y⟩ := y
      have := y vs fz'
      rw [ew] at this
      obtain rfl := Option.some.inj this
      exact ⟨.refl M _, s, rw'⟩
    · rw [rs.length]; simpa using e
theorem qi_tup {tg a : Expr} (ha : QE bk X a h) : QI bk X tg a (iTupV h) := by
  obtain ⟨ta, pa, wa⟩ := ha.ex
  refine ⟨_, pi_tup pa, fun E M ρ S σ H R R' rel q k => ?_⟩
  refine wa E M ρ S σ H _ _ rel q fun M1 S1 H1 x v t1 s1 r1 q1 => ?_
  cases x <;> first | exact q1.elim | skip
  rename_i xs
  obtain ⟨a, vs, rfl, fz, rs⟩ := rp_tup r1
  refine ⟨a, rfl, ⟨vs, fz⟩, k M1 S1 H1 _ _ t1 s1 (fun M S H k t s ck => ?_) q1⟩
  have kp := s1.kp t
  have fz' := kp.t a vs fz
  have rs' := rs.kp kp
  refine ⟨fun x e => ?_, fun e => ⟨vs, fz', ?_⟩⟩
  · obtain ⟨w, ew, rw'⟩ := rs'.get e
    refine ⟨⟨vs, w, fz', ew⟩, fun v H' y => ?_⟩
    obtain ⟨rfl, y⟩ := y
    have := y vs fz'
    rw [ew] at this
    obtain rfl := Option.some.inj this
    exact ⟨.refl M _, s, rw'⟩
  · rw [rs.length]; simpa using e
end
end L2.P3
namespace L2.P3
open PySem PySem.Spec PyProof.Rows

/-! ### what refers to no list from n on -/
mutual
def below (n : Nat) : PV → Bool
  | .lst k => decide (k < n)
  | .dic k => decide (k < n)
  | .obj k => decide (k < n)
  | .tup xs => belows n xs
  | .rol xs => belows n xs
  | _ => true
def belows (n : Nat) : List PV → Bool
  | [] => true
  | x :: xs => below n x && belows n xs
end
section
variable {K : PySem.W.Frag} {bk : BagKind} {r : Nat} {M M' : Am} {S S' : Store} {H H' : Hp}
mutual
theorem below_of : ∀ {x : PV} {v : V}, Rp K r M H x v → below M.m.length x = true
  | .non, v, h => rfl
  | .bl _, v, h => rfl
  | .int _, v, h => rfl
  | .str _, v, h => rfl
  | .bag, v, h => rfl
  | .lst k, v, h => by
    obtain ⟨a, e, _⟩ := rp_lst h
    unfold below
    exact decide_eq_true (List.getElem?_eq_some_iff.mp e.1).1
  | .dic k, v, h => by
    obtain ⟨a, e, _⟩ := rp_dic h
    unfold below
    exact decide_eq_true (List.getElem?_eq_some_iff.mp e.1).1
  | .obj k, v, h => by
    obtain ⟨a, _, _, _, e, _⟩ := rp_obj h
    unfold below
    exact decide_eq_true (List.getElem?_eq_some_iff.mp e.1).1
  | .tup xs, v, h => by
    obtain ⟨a, vs, _, _, h⟩ := rp_tup h
    unfold below
    exact belows_of h
  | .rol xs, v, h => by
    obtain ⟨a, vs, _, _, h⟩ := rp_rol h
    unfold below
    exact belows_of h
theorem belows_of : ∀ {x : List PV} {v : List V}, Rps K r M H x v → belows M.m.length x = true
  | [], v, h => rfl
  | x :: xs, v, h => by
    rw [Rps] at h
    obtain ⟨w, ws, _, h1, h2⟩ := h
    unfold belows
    rw [below_of h1, belows_of h2]; rfl
end
mutual
theorem Rp.cut {l : List Addr} {j : List Kd} (e : M'.m = M.m ++ l) (ek : M'.k = M.k ++ j) (hl : M.k.length = M.m.length) (eb : M'.bag = M.bag) : ∀ {x : PV} {v : V}, Rp K r M' H x v → below M.m.length x = true → Rp K r M H x v
  | .non, v, h, _ => by rw [Rp] at h ⊢; exact h
  | .bl _, v, h, _ => by rw [Rp] at h ⊢; exact h
  | .int _, v, h, _ => by rw [Rp] at h ⊢; exact h
  | .str _, v, h, _ => by rw [Rp] at h ⊢; exact h
  | .bag, v, h, _ => by rw [Rp] at h ⊢; rw [← eb]; exact h
  | .lst k, v, h, b => by
    obtain ⟨a, q, rfl⟩ := rp_lst h
    unfold below at b
    have hk := of_decide_eq_true b
    have q1 := q.1
    have q2 := q.2
    rw [e, List.getElem?_append_left hk] at q1
    rw [ek, List.getElem?_append_left (by omega)] at q2
    exact to_lst ⟨q1, q2⟩
  | .dic k, v, h, b => by
    obtain ⟨a, q, rfl⟩ := rp_dic h
    unfold below at b
    have hk := of_decide_eq_true b
    have q1 := q.1
    have q2 := q.2
    rw [e, List.getElem?_append_left hk] at q1
    rw [ek, List.getElem?_append_left (by omega)] at q2
    rw [Rp]; exact ⟨a, q1, q2, rfl⟩
  | .obj k, v, h, b => by
    obtain ⟨a, C, dx, fs, q, rfl⟩ := rp_obj h
    unfold below at b
    have hk := of_decide_eq_true b
    have q1 := q.1
    have q2 := q.2
    rw [e, List.getElem?_append_left hk] at q1
    rw [ek, List.getElem?_append_left (by omega)] at q2
    rw [Rp]; exact ⟨a, C, dx, fs, q1, q2, rfl⟩
  | .tup xs, v, h, b => by
    obtain ⟨a, vs, rfl, s, h⟩ := rp_tup h
    unfold below at b
    exact to_tup s (Rps.cut e ek hl eb h b)
  | .rol xs, v, h, b => by
    obtain ⟨a, vs, rfl, s, h⟩ := rp_rol h
    unfold below at b
    rw [Rp]; exact ⟨a, vs, rfl, s, Rps.cut e ek hl eb h b⟩
theorem Rps.cut {l : List Addr} {j : List Kd} (e : M'.m = M.m ++ l) (ek : M'.k = M.k ++ j) (hl : M.k.length = M.m.length) (eb : M'.bag = M.bag) : ∀ {x : List PV} {v : List V}, Rps K r M' H x v → belows M.m.length x = true → Rps K r M H x v
  | [], v, h, _ => by rw [Rps] at h ⊢; exact h
  | x :: xs, v, h, b => by
    rw [Rps] at h ⊢
    obtain ⟨w, ws, e1, h1, h2⟩ := h
    unfold belows at b
    rw [Bool.and_eq_true] at b
    exact ⟨w, ws, e1, Rp.cut e ek hl eb h1 b.1, Rps.cut e ek hl eb h2 b.2⟩
end
theorem Sto.lens (s : Sto K bk M S H) : M.k.length = M.m.length := by rw [s.st.lenk, s.st.len]
theorem Cell.cut {l : List Addr} {j : List Kd} (e : M'.m = M.m ++ l) (ek : M'.k = M.k ++ j) (hl : M.k.length = M.m.length) (eb : M'.bag = M.bag) {c : Kd} {xs : List PV} {o o' : HO} (h : Cell K r M' H' c xs o) (h0 : Cell K r M H c xs o') : Cell K r M H' c xs o := by
  have bel : ∀ {ys : List PV} {vs : List V}, Rps K r M H ys vs → belows M.m.length ys = true := fun h => belows_of h
  cases c with
  | lst =>
    obtain ⟨vs, rfl, q⟩ := h
    obtain ⟨vs0, _, q0⟩ := h0
    exact ⟨vs, rfl, q.cut e ek hl eb (bel q0)⟩
  | dic =>
    obtain ⟨ys, vs, e1, rfl, q⟩ := h
    obtain ⟨ys0, vs0, e0, _, q0⟩ := h0
    have e2 : ys.map (·.2) = ys0.map (·.2) := by
      have e3 := congrArg (List.map fun x => match x with | PV.tup [_, y] => y | _ => PV.non) (e1.symm.trans e0)
      rw [List.map_map, List.map_map] at e3
      exact e3
    exact ⟨ys, vs, e1, rfl, q.cut e ek hl eb (by rw [e2]; exact bel q0)⟩
  | ins C dx fs =>
    obtain ⟨nm, ys, vs, e1, ec, rfl, a, b, q⟩ := h
    obtain ⟨nm0, ys0, vs0, e0, _, _, _, _, q0⟩ := h0
    have e2 : ys = ys0 := (List.cons.inj (e1.symm.trans e0)).2
    exact ⟨nm, ys, vs, e1, ec, rfl, a, b, q.cut e ek hl eb (by rw [e2]; exact bel q0)⟩
/-- the lists behind the first ones are forgotten -/
theorem Sto.forget {G : Store} (s : Sto K bk M S H) (t : Step M H M' H') (s' : Sto K bk M' (S ++ G) H') : Step M H M H' ∧ Sto K bk M S H' := by
  obtain ⟨l, e⟩ := t.pre
  obtain ⟨j, ek⟩ := t.prek
  refine ⟨⟨⟨[], by simp⟩, ⟨[], by simp⟩, rfl, t.keep, t.tab, t.live, fun b h h' => absurd h h'⟩, ⟨s.st.len, s.st.lenk, s.st.nd, fun n xs en => ?_⟩, by rw [← t.bag]; exact s'.bag, s.apart, s'.tabs⟩
  have hn : n < S.length := (List.getElem?_eq_some_iff.mp en).1
  obtain ⟨a, c, o, e1, e2, e3, e4⟩ := s'.st.at_ n xs (by rw [List.getElem?_append_left hn]; exact en)
  rw [e, List.getElem?_append_left (by rw [s.st.len]; exact hn)] at e1
  rw [ek, List.getElem?_append_left (by rw [s.st.lenk]; exact hn)] at e2
  obtain ⟨a0, c0, o0, _, k0, _, r0⟩ := s.st.at_ n xs en
  rw [e2] at k0
  cases k0
  exact ⟨a, c, o, e1, e2, e3, e4.cut e ek s.lens t.bag r0⟩
theorem Rp.only {bag : Option (List Addr)} (eb : M.bag = bag) {x : PV} {v : V} (h : Rp K r M H x v) (b : below 0 x = true) : Rp K r ⟨[], bag, []⟩ H x v := Rp.cut (M := ⟨[], bag, []⟩) (l := M.m) (j := M.k) rfl rfl rfl eb h b
theorem Rps.only {bag : Option (List Addr)} (eb : M.bag = bag) {x : List PV} {v : List V} (h : Rps K r M H x v) (b : belows 0 x = true) : Rps K r ⟨[], bag, []⟩ H x v := Rps.cut (M := ⟨[], bag, []⟩) (l := M.m) (j := M.k) rfl rfl rfl eb h b
theorem Kp.wide (K : PySem.W.Frag) (H : Hp) {bag : Option (List Addr)} (e : M.bag = bag) : Kp K ⟨[], bag, []⟩ M H H := ⟨fun n a q => by simp at q, fun n c q => by simp at q, fun own q => by rw [e]; exact q, fun _ _ h => h, fun _ _ h => h⟩
end

/-- e, and the lists that it made are forgotten -/
def pScope (f : PTE) : PTE := fun E ρ S Q => f E ρ S fun x S1 => below S.length x = true ∧ (∃ G, S1 = S ++ G) ∧ Q x S
theorem q_scope {bk : BagKind} {X : Cx} {e : Expr} {f : PTE} (h : QE bk X e f) : QE bk X e (pScope f) := by
  obtain ⟨t, p, w⟩ := h.ex
  refine ⟨t, p, fun E M ρ S σ H Q Q' R q k => w E M ρ S σ H _ _ R q fun M1 S1 H1 x v t1 s1 r1 q1 => ?_⟩
  obtain ⟨b, ⟨G, rfl⟩, q1⟩ := q1
  obtain ⟨t2, s2⟩ := R.sto.forget t1 s1
  obtain ⟨l, e⟩ := t1.pre
  obtain ⟨j, ek⟩ := t1.prek
  exact k M S H1 x v t2 s2 (r1.cut e ek R.sto.lens t1.bag (by rw [R.sto.st.len]; exact b)) q1

/-! ### defs: promises -/
abbrev PF0 := List PV → (PV → Prop) → Prop
abbrev PFS := List PV → Store → PQ → Prop
def sp0 (bk : BagKind) (K : PySem.W.Frag) (F : PF0) : Sp := fun vs H Q _ => ∃ bag xs, Sto K bk ⟨[], bag, []⟩ [] H ∧ Rps K bk.root ⟨[], bag, []⟩ H xs vs ∧
  F xs fun r => ∀ H' v, Step ⟨[], bag, []⟩ H ⟨[], bag, []⟩ H' → Sto K bk ⟨[], bag, []⟩ [] H' → Rp K bk.root ⟨[], bag, []⟩ H' r v → Q v H'
def spS (bk : BagKind) (K : PySem.W.Frag) (F : PFS) : Sp := fun vs H Q _ => ∃ M S xs, Sto K bk M S H ∧ Rps K bk.root M H xs vs ∧
  F xs S fun r S' => ∀ M' H' v, Step M H M' H' → Sto K bk M' S' H' → Rp K bk.root M' H' r v → Q v H'
def pCall0 (F : PF0) (f : PTA) : PTE := fun E ρ S Q => f E ρ S fun xs S1 => belows 0 xs = true ∧ F xs fun r => Q r S1
def pCallS (F : PFS) (f : PTA) : PTE := fun E ρ S Q => f E ρ S fun xs S1 => F xs S1 Q
def start0 (N : Nat) (xs : List PV) : PEnv := xs.map some ++ List.replicate (N - xs.length) none
def noX : XW := fun _ _ _ => False
/-- a def's body, plain values in and out -/
def pDef0 (n N : Nat) (b : PTS) : PF0 := fun xs Q => xs.length = n ∧ b noX { nx := fun _ _ => Q .non, rt := fun r _ => below 0 r = true ∧ Q r } (start0 N xs) []
/-- a def's body with the caller's store -/
def pDefS (n N : Nat) (b : PTS) : PFS := fun xs S Q => xs.length = n ∧ b noX { nx := fun _ S' => Q .non S', rt := Q } (start0 N xs) S
/-- .. the lists that it made forgotten -/
def pDefC (n N : Nat) (b : PTS) : PFS := fun xs S Q => xs.length = n ∧ b noX { nx := fun _ S' => (∃ G, S' = S ++ G) ∧ Q .non S, rt := fun r S' => below S.length r = true ∧ (∃ G, S' = S ++ G) ∧ Q r S } (start0 N xs) S
section
variable {P : Program} {w : World} {K : PySem.W.Frag} {mg : Str → Option Value} {base : Heap} {bk : BagKind}
theorem rel_start {M : Am} {S : Store} {H : Hp} {xs : List PV} {vs : List V} {N : List Str} (s : Sto K bk M S H) (r : Rps K bk.root M H xs vs) : Rel K bk M (start0 N.length xs) S (start N vs) H := by
  have hl := r.length
  refine ⟨by unfold start0 start; simp [hl], fun i x e => ?_, s⟩
  unfold start0 at e
  by_cases hi : i < xs.length
  · rw [List.getElem?_append_left (by simpa using hi), List.getElem?_map, List.getElem?_eq_getElem hi] at e
    have e' : xs[i] = x := by simpa using e
    obtain ⟨v, ev, rv⟩ := r.get (i := i) (x := x) (by rw [List.getElem?_eq_getElem hi, e'])
    refine ⟨v, ?_, rv⟩
    unfold start
    rw [List.getElem?_append_left (by simpa [hl] using hi), List.getElem?_map, ev]; rfl
  · rw [List.getElem?_append_right (by simpa using hi), List.getElem?_replicate] at e
    split at e <;> simp at e
theorem ok0 {x qual : Str} {st : Stmt} {f : Addr} {fd : FuncData} {N ps : List Str} {k n : Nat} {b : PTS} (F : Fun K x qual st f fd) (Sc : FnScope N ps (defScope st)) (hn : ps.length = n)
    (h : ∀ (cdv : Value) (A : Around) (outer : List PySem.Env) (s : Shared) (H : Hp) (E : XK), Room k (A.deeper (envOfC qual (defScope st) s.heap.objs.size f cdv)) → QSs bk (cxOf CX0 P w K mg base N qual (defScope st) f cdv A outer s H E).nox (defBody st) b) :
    FnOk P w K mg base CX0 (k + 1) f fd ps (sp0 bk K (pDef0 n N.length b)) := by
  refine F.ok Sc (fun vs H Q E q => ?_) (fun cdv A outer s H vs Q E hr q => ?_)
  · obtain ⟨bag, xs, _, r, hl, _⟩ := q
    rw [r.length, hl, hn]
  · obtain ⟨bag, xs, st0, r, hl, q⟩ := q
    obtain ⟨t, p, wt⟩ := (h cdv A outer s H E hr).ex
    refine ⟨t, p, wt noX ⟨[], bag, []⟩ (start0 N.length xs) [] (start N vs) H _ _ (rel_start st0 r) q ⟨?_, ?_, fun _ _ _ _ _ _ _ z => z.elim, fun _ _ _ _ _ _ _ z => z.elim⟩⟩
    · intro M' ρ' S' σ' H' t' R' q'
      have f := st0.forget (G := S') t' R'.sto
      exact q' H' .non f.1 f.2 to_non
    · intro M' S' H' x v t' s' r' q'
      have f := st0.forget (G := S') t' s'
      exact q'.2 H' v f.1 f.2 (r'.only t'.bag q'.1)
theorem okS {x qual : Str} {st : Stmt} {f : Addr} {fd : FuncData} {N ps : List Str} {k n : Nat} {b : PTS} (F : Fun K x qual st f fd) (Sc : FnScope N ps (defScope st)) (hn : ps.length = n)
    (h : ∀ (cdv : Value) (A : Around) (outer : List PySem.Env) (s : Shared) (H : Hp) (E : XK), Room k (A.deeper (envOfC qual (defScope st) s.heap.objs.size f cdv)) → QSs bk (cxOf CX0 P w K mg base N qual (defScope st) f cdv A outer s H E).nox (defBody st) b) :
    FnOk P w K mg base CX0 (k + 1) f fd ps (spS bk K (pDefS n N.length b)) := by
  refine F.ok Sc (fun vs H Q E q => ?_) (fun cdv A outer s H vs Q E hr q => ?_)
  · obtain ⟨M, S, xs, _, r, hl, _⟩ := q
    rw [r.length, hl, hn]
  · obtain ⟨M, S, xs, st0, r, hl, q⟩ := q
    obtain ⟨t, p, wt⟩ := (h cdv A outer s H E hr).ex
    refine ⟨t, p, wt noX M (start0 N.length xs) S (start N vs) H _ _ (rel_start st0 r) q ⟨?_, ?_, fun _ _ _ _ _ _ _ z => z.elim, fun _ _ _ _ _ _ _ z => z.elim⟩⟩
    · intro M' ρ' S' σ' H' t' R' q'
      exact q' M' H' .non t' R'.sto to_non
    · intro M' S' H' x v t' s' r' q'
      exact q' M' H' v t' s' r'
theorem okC {x qual : Str} {st : Stmt} {f : Addr} {fd : FuncData} {N ps : List Str} {k n : Nat} {b : PTS} (F : Fun K x qual st f fd) (Sc : FnScope N ps (defScope st)) (hn : ps.length = n)
    (h : ∀ (cdv : Value) (A : Around) (outer : List PySem.Env) (s : Shared) (H : Hp) (E : XK), Room k (A.deeper (envOfC qual (defScope st) s.heap.objs.size f cdv)) → QSs bk (cxOf CX0 P w K mg base N qual (defScope st) f cdv A outer s H E).nox (defBody st) b) :
    FnOk P w K mg base CX0 (k + 1) f fd ps (spS bk K (pDefC n N.length b)) := by
  refine F.ok Sc (fun vs H Q E q => ?_) (fun cdv A outer s H vs Q E hr q => ?_)
  · obtain ⟨M, S, xs, _, r, hl, _⟩ := q
    rw [r.length, hl, hn]
  · obtain ⟨M, S, xs, st0, r, hl, q⟩ := q
    obtain ⟨t, p, wt⟩ := (h cdv A outer s H E hr).ex
    refine ⟨t, p, wt noX M (start0 N.length xs) S (start N vs) H _ _ (rel_start st0 r) q ⟨?_, ?_, fun _ _ _ _ _ _ _ z => z.elim, fun _ _ _ _ _ _ _ z => z.elim⟩⟩
    · rintro M' ρ' S' σ' H' t' R' ⟨⟨G, rfl⟩, q'⟩
      have f := st0.forget t' R'.sto
      exact q' M H' .non f.1 f.2 to_non
    · rintro M' S' H' x v t' s' r' ⟨hb, ⟨G, rfl⟩, q'⟩
      have f := st0.forget t' s'
      obtain ⟨l, e⟩ := t'.pre
      obtain ⟨j, ek⟩ := t'.prek
      exact q' M H' v f.1 f.2 (r'.cut e ek st0.lens t'.bag (by rw [st0.st.len]; exact hb))
/-- a promise by another one -/
theorem sp0_imp {F F' : PF0} {CX : CXT} {k : Nat} {f : Addr} {fd : FuncData} {ps : List Str} (h : FnOk P w K mg base CX k f fd ps (sp0 bk K F)) (i : ∀ xs Q, F' xs Q → F xs Q) : FnOk P w K mg base CX k f fd ps (sp0 bk K F') :=
  h.imp fun _ _ _ _ ⟨bag, xs, s, r, q⟩ => ⟨bag, xs, s, r, i _ _ q⟩
theorem spS_imp {F F' : PFS} {CX : CXT} {k : Nat} {f : Addr} {fd : FuncData} {ps : List Str} (h : FnOk P w K mg base CX k f fd ps (spS bk K F)) (i : ∀ xs S Q, F' xs S Q → F xs S Q) : FnOk P w K mg base CX k f fd ps (spS bk K F') :=
  h.imp fun _ _ _ _ ⟨M, S, xs, s, r, q⟩ => ⟨M, S, xs, s, r, i _ _ _ q⟩
end
/-- from a plain call's promise to what stands around -/
theorem call0_ok {K : PySem.W.Frag} {bk : BagKind} {M : Am} {S : Store} {H : Hp} {xs : List PV} {vs : List V} {F : PF0} {Q Q'} {E : XK} (s : Sto K bk M S H) (r : Rps K bk.root M H xs vs) (hb : belows 0 xs = true) (q : F xs fun r => Q r S) (p : Post bk K M H Q Q') : sp0 bk K F vs H Q' E → sp0 bk K F vs H Q' E := id
theorem sp0_of {K : PySem.W.Frag} {bk : BagKind} {M : Am} {S : Store} {H : Hp} {xs : List PV} {vs : List V} {F : PF0} {Q Q'} {E : XK} (s : Sto K bk M S H) (r : Rps K bk.root M H xs vs) (hb : belows 0 xs = true) (mono : ∀ Q1 Q2 : PV → Prop, (∀ r, Q1 r → Q2 r) → F xs Q1 → F xs Q2) (q : F xs fun r => Q r S) (p : Post bk K M H Q Q') : sp0 bk K F vs H Q' E := by
  refine ⟨M.bag, xs, ⟨⟨rfl, rfl, List.nodup_nil, fun n xs e => by simp at e⟩, s.bag, fun b h => by simp at h, s.tabs⟩, r.only rfl hb, mono _ _ (fun x q1 => ?_) q⟩
  intro H' v t s' r'
  have t' : Step M H M H' := ⟨⟨[], by simp⟩, ⟨[], by simp⟩, rfl, fun b x h1 h2 h => t.keep b x (by simp) h2 h, t.tab, t.live, fun b h h' => absurd h h'⟩
  refine p M S H' x v t' ⟨⟨s.st.len, s.st.lenk, s.st.nd, fun n xs e => ?_⟩, s'.bag, s.apart, s'.tabs⟩ (r'.kp (Kp.wide K H' rfl)) q1
  obtain ⟨a, c, o, e1, ek, e2, e3⟩ := s.st.at_ n xs e
  have m := e3.mu
  exact ⟨a, c, o, e1, ek, t.keep a _ (by simp) (s.apart a (List.mem_of_getElem? e1)) (fun ps z => by rw [z] at m; exact m) e2, e3.step s t'⟩
end L2.P3
namespace L2.P3
open PySem PySem.Spec PyProof.Rows

/-! ### weaker wishes -/
class MoE (f : PTE) : Prop where
  mo : ∀ {E ρ S} {Q Q' : PQ}, (∀ x S, Q x S → Q' x S) → f E ρ S Q → f E ρ S Q'
class MoA (f : PTA) : Prop where
  mo : ∀ {E ρ S} {Q Q' : List PV → Store → Prop}, (∀ x S, Q x S → Q' x S) → f E ρ S Q → f E ρ S Q'
class MoT (f : PTT) : Prop where
  mo : ∀ {E ρ S} {Q Q' : Bool → Store → Prop}, (∀ x S, Q x S → Q' x S) → f E ρ S Q → f E ρ S Q'
class MoO (f : PTO) : Prop where
  mo : ∀ {E ρ S} {Q Q' : Option Int → Store → Prop}, (∀ x S, Q x S → Q' x S) → f E ρ S Q → f E ρ S Q'
class MoI (f : PTI) : Prop where
  mo : ∀ {E ρ S} {Q Q' : PIter → Store → Prop}, (∀ x S, Q x S → Q' x S) → f E ρ S Q → f E ρ S Q'
class Mo2 (o : PO2) : Prop where
  mo : ∀ {x y S} {Q Q' : PQ}, (∀ x S, Q x S → Q' x S) → o x y S Q → o x y S Q'
class Mo1 (o : PO1) : Prop where
  mo : ∀ {x S} {Q Q' : PQ}, (∀ x S, Q x S → Q' x S) → o x S Q → o x S Q'
class MoC (o : PCl) : Prop where
  mo : ∀ {x S} {Q Q' : PQ}, (∀ x S, Q x S → Q' x S) → o x S Q → o x S Q'
class Mo0 (F : PF0) : Prop where
  mo : ∀ {x} {Q Q' : PV → Prop}, (∀ x, Q x → Q' x) → F x Q → F x Q'
class MoF (F : PFS) : Prop where
  mo : ∀ {x S} {Q Q' : PQ}, (∀ x S, Q x S → Q' x S) → F x S Q → F x S Q'
class MoG (g : PTG) : Prop where
  mo : ∀ {E x ρ S} {Q Q' : PEnv → Store → Prop}, (∀ x S, Q x S → Q' x S) → g E x ρ S Q → g E x ρ S Q'
class MoGs (g : PTGs) : Prop where
  mo : ∀ {E x ρ S} {Q Q' : PEnv → Store → Prop}, (∀ x S, Q x S → Q' x S) → g E x ρ S Q → g E x ρ S Q'
structure PEnds.Le (D D' : PEnds) : Prop where
  nx : ∀ ρ S, D.nx ρ S → D'.nx ρ S
  rt : ∀ x S, D.rt x S → D'.rt x S
  bk : ∀ ρ S, D.bk ρ S → D'.bk ρ S
  ct : ∀ ρ S, D.ct ρ S → D'.ct ρ S
class MoS (f : PTS) : Prop where
  mo : ∀ {E ρ S} {D D' : PEnds}, D.Le D' → f E D ρ S → f E D' ρ S
section
variable {f g : PTE} {fa ga : PTA} {ft gt : PTT} {fs gs : PTS} {i : Nat} {x : PV}
instance : MoE (pVar i) := ⟨fun h q => by unfold pVar at q ⊢; split <;> simp_all⟩
instance : MoE (pC x) := ⟨fun h q => h _ _ q⟩
instance {o : PO2} [Mo2 o] [MoE f] [MoE g] : MoE (pOp o f g) := ⟨fun h q => MoE.mo (f := f) (fun _ _ q => MoE.mo (f := g) (fun _ _ q => Mo2.mo h q) q) q⟩
instance {o : PO1} [Mo1 o] [MoE f] : MoE (pUn o f) := ⟨fun h q => MoE.mo (f := f) (fun _ _ q => Mo1.mo h q) q⟩
instance {o : PCl} [MoC o] [MoA fa] : MoE (pCl o fa) := ⟨fun h q => MoA.mo (f := fa) (fun _ _ q => MoC.mo h q) q⟩
instance : MoA pANil := ⟨fun h q => h _ _ q⟩
instance [MoE f] [MoA fa] : MoA (pACons f fa) := ⟨fun h q => MoE.mo (f := f) (fun _ _ q => MoA.mo (f := fa) (fun _ _ q => h _ _ q) q) q⟩
instance [MoT ft] [MoE f] [MoE g] : MoE (pIf ft f g) := ⟨fun h q => MoT.mo (f := ft) (fun b _ q => by
  cases b
  · exact MoE.mo (f := g) h q
  · exact MoE.mo (f := f) h q) q⟩
instance [MoE f] : MoT (pTB f) := ⟨fun h q => MoE.mo (f := f) (fun x _ q => by cases x <;> first | exact q.elim | exact h _ _ q) q⟩
instance [MoT ft] [MoT gt] : MoT (pAnd ft gt) := ⟨fun h q => MoT.mo (f := ft) (fun b _ q => by
  cases b
  · exact h _ _ q
  · exact MoT.mo (f := gt) h q) q⟩
instance [MoT ft] [MoT gt] : MoT (pOr ft gt) := ⟨fun h q => MoT.mo (f := ft) (fun b _ q => by
  cases b
  · exact MoT.mo (f := gt) h q
  · exact h _ _ q) q⟩
instance [MoT ft] : MoT (pNot ft) := ⟨fun h q => MoT.mo (f := ft) (fun b _ q => h _ _ q) q⟩
instance [MoE f] [MoE g] : MoE (pAndV f g) := ⟨fun h q => MoE.mo (f := f) (fun x _ q => by
  cases x <;> first | exact q.elim | skip
  rename_i b
  cases b
  · exact h _ _ q
  · exact MoE.mo (f := g) h q) q⟩
instance [MoE f] [MoE g] : MoE (pOrV f g) := ⟨fun h q => MoE.mo (f := f) (fun x _ q => by
  cases x <;> first | exact q.elim | skip
  rename_i b
  cases b
  · exact MoE.mo (f := g) h q
  · exact h _ _ q) q⟩
instance [MoE f] : MoE (pNotV f) := ⟨fun h q => MoE.mo (f := f) (fun x _ q => by cases x <;> first | exact q.elim | exact h _ _ q) q⟩
instance [MoA fa] : MoE (pTup fa) := ⟨fun h q => MoA.mo (f := fa) (fun _ _ q => ⟨q.1, h _ _ q.2⟩) q⟩
instance [MoA fa] : MoE (pLst fa) := ⟨fun h q => MoA.mo (f := fa) (fun _ _ q => ⟨q.1, h _ _ q.2⟩) q⟩
instance [MoE f] : MoE (pScope f) := ⟨fun h q => MoE.mo (f := f) (fun _ _ q => ⟨q.1, q.2.1, h _ _ q.2.2⟩) q⟩
instance {F : PF0} [Mo0 F] [MoA fa] : MoE (pCall0 F fa) := ⟨fun h q => MoA.mo (f := fa) (fun _ _ q => ⟨q.1, Mo0.mo (F := F) (fun _ q => h _ _ q) q.2⟩) q⟩
instance {F : PFS} [MoF F] [MoA fa] : MoE (pCallS F fa) := ⟨fun h q => MoA.mo (f := fa) (fun _ _ q => MoF.mo (F := F) h q) q⟩
instance : MoS pNext := ⟨fun h q => h.nx _ _ q⟩
instance [MoS fs] [MoS gs] : MoS (pSeq fs gs) := ⟨fun {E ρ S D D'} h q => by
  unfold pSeq at q ⊢
  refine MoS.mo (f := fs) ?_ q
  exact ⟨fun _ _ q => MoS.mo (f := gs) h q, h.rt, h.bk, h.ct⟩⟩
instance [MoE f] : MoS (pRet f) := ⟨fun h q => MoE.mo (f := f) h.rt q⟩
instance : MoS pRetN := ⟨fun h q => h.rt _ _ q⟩
instance : MoS pBreak := ⟨fun h q => h.bk _ _ q⟩
instance : MoS pCont := ⟨fun h q => h.ct _ _ q⟩
instance : MoS pNever := ⟨fun h q => q.elim⟩
instance [MoE f] : MoS (pDrop f) := ⟨fun h q => MoE.mo (f := f) (fun _ _ q => h.nx _ _ q) q⟩
instance [MoT ft] [MoS fs] [MoS gs] : MoS (pIfS ft fs gs) := ⟨fun h q => MoT.mo (f := ft) (fun b _ q => by
  cases b
  · exact MoS.mo (f := gs) h q
  · exact MoS.mo (f := fs) h q) q⟩
instance [MoE f] : MoS (pSet i f) := ⟨fun h q => MoE.mo (f := f) (fun _ _ q => h.nx _ _ q) q⟩
instance {g : PTG} [MoE f] [MoG g] : MoS (pAsg f g) := ⟨fun h q => MoE.mo (f := f) (fun _ _ q => MoG.mo (g := g) h.nx q) q⟩
instance {o : PO2} [Mo2 o] [MoE f] : MoS (pAug i o f) := ⟨fun h q => by
  unfold pAug at q ⊢
  split at q
  · exact MoE.mo (f := f) (fun _ _ q => Mo2.mo (fun _ _ q => h.nx _ _ q) q) q
  · exact q.elim⟩
instance : MoG (gN i) := ⟨fun h q => h _ _ q⟩
instance : MoGs gsNil := ⟨fun {_ x _ _ _ _} h q => by cases x <;> first | exact h _ _ q | exact q.elim⟩
instance {g : PTG} {gs : PTGs} [MoG g] [MoGs gs] : MoGs (gsCons g gs) := ⟨fun {_ x _ _ _ _} h q => by
  cases x
  · exact q.elim
  · exact MoG.mo (g := g) (fun _ _ q => MoGs.mo (g := gs) h q) q⟩
instance {n : Nat} {gs : PTGs} [MoGs gs] : MoG (gT n gs) := ⟨fun {_ x _ _ _ _} h q => by
  cases x <;> first | exact q.elim | exact ⟨q.1, MoGs.mo (g := gs) h q.2⟩⟩
theorem pForL_mo {chk : Store → Prop} {g : PTG} {b : PTS} [MoG g] [MoS b] {E : XW} {D D' : PEnds} (h : D.Le D') : ∀ {xs : List PV} {ρ : PEnv} {S : Store}, pForL chk g b E D xs ρ S → pForL chk g b E D' xs ρ S
  | [], ρ, S, q => ⟨q.1, h.nx _ _ q.2⟩
  | x :: xs, ρ, S, q => by
    unfold pForL at q ⊢
    refine ⟨q.1, MoG.mo (g := g) (fun _ _ q => ?_) q.2⟩
    refine MoS.mo (f := b) ?_ q
    exact ⟨fun _ _ q => pForL_mo h q, h.rt, h.nx, fun _ _ q => pForL_mo h q⟩
instance {i : PTI} {g : PTG} {b : PTS} [MoI i] [MoG g] [MoS b] : MoS (pFor i g b) := ⟨fun h q => MoI.mo (f := i) (fun _ _ q => pForL_mo h q) q⟩
instance {c : PTT} {b : PTS} [MoT c] [MoS b] : MoS (pWhile c b) := ⟨fun h q => by
  obtain ⟨W, w0, t⟩ := q
  refine ⟨W, w0, fun k ρ S w => MoT.mo (f := c) (fun d _ q => ?_) (t k ρ S w)⟩
  cases d with
  | false =>
    exact h.nx _ _ q
  | true =>
    refine MoS.mo (f := b) ?_ q
    exact ⟨fun _ _ q => q, h.rt, h.nx, fun _ _ q => q⟩⟩
instance [MoE f] : MoI (iRange1 f) := ⟨fun h q => MoE.mo (f := f) (fun x _ q => by cases x <;> first | exact q.elim | exact ⟨q.1, q.2.1, h _ _ q.2.2⟩) q⟩
instance [MoE f] [MoE g] : MoI (iRange2 f g) := ⟨fun h q => MoE.mo (f := f) (fun x _ q => MoE.mo (f := g) (fun y _ q => by cases x <;> cases y <;> first | exact q.elim | exact ⟨q.1, h _ _ q.2⟩) q) q⟩
instance [MoE f] : MoI (iVal f) := ⟨fun h q => MoE.mo (f := f) (fun x _ q => by
  cases x <;> first | exact q.elim | skip
  · exact onO_mo (fun _ q => h _ _ q) q
  · exact h _ _ q) q⟩
instance [MoE f] : MoI (iTupV f) := ⟨fun h q => MoE.mo (f := f) (fun x _ q => by cases x <;> first | exact q.elim | exact h _ _ q) q⟩
instance {n N : Nat} {b : PTS} [MoS b] : Mo0 (pDef0 n N b) := ⟨fun h q => by
  refine ⟨q.1, MoS.mo (f := b) ?_ q.2⟩
  exact ⟨fun _ _ q => h _ q, fun _ _ q => ⟨q.1, h _ q.2⟩, fun _ _ q => q, fun _ _ q => q⟩⟩
instance {n N : Nat} {b : PTS} [MoS b] : MoF (pDefS n N b) := ⟨fun h q => by
  refine ⟨q.1, MoS.mo (f := b) ?_ q.2⟩
  exact ⟨fun _ _ q => h _ _ q, fun _ _ q => h _ _ q, fun _ _ q => q, fun _ _ q => q⟩⟩
instance {n N : Nat} {b : PTS} [MoS b] : MoF (pDefC n N b) := ⟨fun h q => by
  refine ⟨q.1, MoS.mo (f := b) ?_ q.2⟩
  exact ⟨fun _ _ q => ⟨q.1, h _ _ q.2⟩, fun _ _ q => ⟨q.1, q.2.1, h _ _ q.2.2⟩, fun _ _ q => q, fun _ _ q => q⟩⟩
end

/-! ### calls of defs -/
/-- the values in another order -/
def pick {α : Type} (idx : List Nat) (l : List α) : List α := idx.filterMap fun i => l[i]?
def pPick (idx : List Nat) (f : PTA) : PTA := fun E ρ S Q => f E ρ S fun xs S1 => Q (pick idx xs) S1
instance {idx : List Nat} {f : PTA} [MoA f] : MoA (pPick idx f) := ⟨fun h q => MoA.mo (f := f) (fun _ _ q => h _ _ q) q⟩
/-- how a call with keywords binds -/
structure KB (K : PySem.W.Frag) (fd : FuncData) (ps : List Str) (n : Nat) (ks : List Str) (idx : List Nat) : Prop where
  to : ∀ (s : Shared) (us ws : List Value), us.length = n → ws.length = ks.length → BindsTo s fd ⟨us, ks.zip ws⟩ (ps.zip (pick idx (us ++ ws)))
theorem Fun.kb {K : PySem.W.Frag} {x qual : Str} {st : Stmt} {f : Addr} {fd : FuncData} {ps : List Str} (F : Fun K x qual st f fd) (n : Nat) (ks : List Str) (idx : List Nat)
    (h : ∀ (kV doc pm : Value) (an : Option Addr) (cdv ct : Value) (us ws : List Value), us.length = n → ws.length = ks.length → bindArgs (PySem.W.fnOf x qual (defArgs st) (defBody st) (defScope st) .none kV doc pm an cdv ct) ⟨us, ks.zip ws⟩ = pure (ps.zip (pick idx (us ++ ws)))) : KB K fd ps n ks idx := by
  obtain ⟨oc, od, kV, doc, pm, an, cdv, ct, osl, rfl, lk, hcd⟩ := F.ex
  exact ⟨fun s us ws l1 l2 => .of_eq (h kV doc pm an cdv ct us ws l1 l2)⟩
theorem pick_rel {α β : Type} {R : α → β → Prop} {l : List α} {l' : List β} (h : Paired R l l') : ∀ idx : List Nat, Paired R (pick idx l) (pick idx l')
  | [] => .nil
  | i :: idx => by
    have key : ∀ {l : List α} {l' : List β} (j : Nat), Paired R l l' → (l[j]? = none ∧ l'[j]? = none) ∨ ∃ a b, l[j]? = some a ∧ l'[j]? = some b ∧ R a b := by
      intro l l' j h
      induction h generalizing j with
      | nil => simp
      | cons r t ih =>
        cases j with
        | zero => exact .inr ⟨_, _, rfl, rfl, r⟩
        | succ j => simpa using ih j
    have ih := pick_rel h idx
    unfold pick at ih ⊢
    rcases key i h with ⟨e1, e2⟩ | ⟨a, b, e1, e2, r⟩
    · rw [List.filterMap_cons_none e1, List.filterMap_cons_none e2]; exact ih
    · rw [List.filterMap_cons_some e1, List.filterMap_cons_some e2]; exact .cons r ih
theorem rps_paired {K : PySem.W.Frag} {r : Nat} {M : Am} {H : Hp} : ∀ {xs : List PV} {vs : List V}, Rps K r M H xs vs ↔ Paired (Rp K r M H) xs vs
  | [], vs => by
    rw [Rps]
    constructor
    · rintro rfl; exact .nil
    · intro h; cases h; rfl
  | x :: xs, vs => by
    rw [Rps]
    constructor
    · rintro ⟨v, ws, rfl, h1, h2⟩; exact .cons h1 (rps_paired.mp h2)
    · intro h; cases h with
      | cons h1 h2 => exact ⟨_, _, rfl, h1, rps_paired.mpr h2⟩
theorem Rps.pick {K : PySem.W.Frag} {r : Nat} {M : Am} {H : Hp} {xs : List PV} {vs : List V} (idx : List Nat) (h : Rps K r M H xs vs) : Rps K r M H (P3.pick idx xs) (P3.pick idx vs) := rps_paired.mpr (pick_rel (rps_paired.mp h) idx)
section
variable {bk : BagKind} {X : Cx} {k : Nat} {f : Addr} {fd : FuncData} {ps ks : List Str} {sp : Sp} {x : Str} {p pos : Pos} {e : Expr} {es : List Expr} {kws : List Keyword} {fa fk : PTA}
/-- a promise of a def, and what stands for it -/
def PromE (bk : BagKind) (K : PySem.W.Frag) (sp : Sp) (c : PCl) : Prop := ∀ M S H xs vs Q Q' E, Sto K bk M S H → Rps K bk.root M H xs vs → c xs S Q → Post bk K M H Q Q' → sp vs H Q' E
def c0 (F : PF0) : PCl := fun xs S Q => belows 0 xs = true ∧ F xs fun r => Q r S
theorem prom0 {K : PySem.W.Frag} {F : PF0} [Mo0 F] : PromE bk K (sp0 bk K F) (c0 F) := fun M S H xs vs Q Q' E s r q p => sp0_of s r q.1 (fun _ _ h q => Mo0.mo (F := F) h q) q.2 p
theorem promS {K : PySem.W.Frag} {F : PFS} [MoF F] : PromE bk K (spS bk K F) F := fun M S H xs vs Q Q' E s r q p => ⟨M, S, xs, s, r, MoF.mo (F := F) (fun x S1 q1 M' H' v t s' r' => p M' S1 H' x v t s' r' q1) q⟩
instance {F : PF0} [Mo0 F] : MoC (c0 F) := ⟨fun h q => ⟨q.1, Mo0.mo (F := F) (fun _ q => h _ _ q) q.2⟩⟩
instance {F : PFS} [MoF F] : MoC F := ⟨fun h q => MoF.mo (F := F) h q⟩
theorem q_call {c : PCl} (G : FnOk X.prog X.w X.K X.mg X.base CX0 k f fd ps sp) (pr : PromE bk X.K sp c) (hr : Room k X.A) (hg : Gl X x) (hm : X.mg x = some (.ref f)) (hk : PySem.W.keepIn X.K (.ref f) = true) (hb : Binds X.K fd ps [])
    (ha : QA bk X (e :: es) fa) (hdb : (x == ("__debug__" : Str)) = false := by decide) (he : starEach (e :: es) X.env = (false, eval e X.env) :: starEach es X.env := by rfl) (hpl : (backTo pos (starEach es X.env)).any (·.1) = false := by rfl) :
    QE bk X (.Call (.Name x p) (e :: es) [] pos) (pCl c fa) := by
  obtain ⟨ta, pa, wa⟩ := ha.ex
  refine ⟨_, pe_call G hr hg hm hk hb .nil (pass0 (X := X)) pa hdb he hpl, fun E M ρ S σ H Q Q' R q p => ?_⟩
  refine wa E M ρ S σ H _ _ R q fun M1 S1 H1 xs vs t1 s1 r1 q1 => ?_
  show sp (vs ++ []) H1 Q' E0
  rw [List.append_nil]
  exact pr M1 S1 H1 xs vs Q Q' _ s1 r1 q1 (p.after t1)
theorem q_callN {c : PCl} (G : FnOk X.prog X.w X.K X.mg X.base CX0 k f fd ps sp) (pr : PromE bk X.K sp c) (hr : Room k X.A) (hg : Gl X x) (hm : X.mg x = some (.ref f)) (hk : PySem.W.keepIn X.K (.ref f) = true) (hb : Binds X.K fd ps [])
    (hdb : (x == ("__debug__" : Str)) = false := by decide) : QE bk X (.Call (.Name x p) [] [] pos) (pCl c pANil) := by
  refine ⟨_, pe_call0 G hr hg hm hk hb .nil (pass0 (X := X)) hdb, fun E M ρ S σ H Q Q' R q p => ?_⟩
  exact pr M S H [] [] Q Q' _ R.sto .nil q p
structure QK (bk : BagKind) (X : Cx) (kws : List Keyword) (f : PTA) : Prop where
  ex : ∃ t, PK X kws t ∧ ∀ (E : XW) M ρ S σ H Q Q', Rel X.K bk M ρ S σ H → f E ρ S Q → PostA bk X.K M H Q Q' → t σ H Q'
theorem q_knil : QK bk X [] pANil := ⟨_, pk_nil, fun E M ρ S σ H Q Q' R q p => p M S H [] [] (.refl M H) R.sto .nil q⟩
theorem q_kcons {nm : Option Str} {kpos : Pos} {g : PTE} (ha : QE bk X e g) (hs : QK bk X kws fk) : QK bk X (⟨nm, e, kpos⟩ :: kws) (pACons g fk) := by
  obtain ⟨ta, pa, wa⟩ := ha.ex
  obtain ⟨tb, pb, wb⟩ := hs.ex
  refine ⟨_, pk_cons pa pb, fun E M ρ S σ H Q Q' R q p => ?_⟩
  refine wa E M ρ S σ H _ _ R q fun M1 S1 H1 x v t1 s1 r1 q1 => ?_
  refine wb E M1 ρ S1 σ H1 _ _ (R.step t1 s1) q1 fun M2 S2 H2 y w t2 s2 r2 q2 => ?_
  exact p M2 S2 H2 _ _ (t1.trans t2) s2 (.cons (r1.step s1 t2) r2) q2
/-- the arguments of a call with keywords, all in one list -/
def pApp (m : Nat) (n : Nat) (f g : PTA) : PTA := fun E ρ S Q => f E ρ S fun xs S1 => g E ρ S1 fun ys S2 => xs.length = m ∧ ys.length = n ∧ Q (xs ++ ys) S2
instance {m n : Nat} [MoA fa] [MoA fk] : MoA (pApp m n fa fk) := ⟨fun h q => MoA.mo (f := fa) (fun _ _ q => MoA.mo (f := fk) (fun _ _ q => ⟨q.1, q.2.1, h _ _ q.2.2⟩) q) q⟩
theorem run_kb {n : Nat} {idx : List Nat} {pins : List (Addr × Obj)} {σ : St} {H : Hp} {s : Shared} {Q : VK} {us ws : List Value} {vs zs : List V} (G : FnOk X.prog X.w X.K X.mg X.base CX0 k f fd ps sp) (hr : Room k X.A) (hb : KB X.K fd ps n ks idx)
    (I : Inv X pins σ H s) (r : Vals vs us) (rz : Vals zs ws) (l1 : vs.length = n) (l2 : zs.length = ks.length) (h : sp (pick idx (vs ++ zs)) H Q E0) : wpAny (model X.prog X.w) X.A (call (.ref f) us (ks.zip ws)) (EP X pins σ Q) X.xe s := by
  have r2 : Vals (pick idx (vs ++ zs)) (pick idx (us ++ ws)) := pick_rel (r.append rz) idx
  refine wpAny_call (codeAny_mono (G.run X.A X.stack s H ⟨us, ks.zip ws⟩ _ _ Q E0 hr I.env0 (hb.to s us ws (by rw [← r.length]; exact l1) (by rw [← rz.length]; exact l2)) r2 h) fun r s' hq => ?_)
  cases r with
  | error e => exact False.elim hq
  | ok fl =>
    cases fl with
    | ret u => exact I.after hq
    | next => exact False.elim hq
    | brk => exact False.elim hq
    | cont => exact False.elim hq
theorem q_callK0 {c : PCl} {m : Nat} {idx : List Nat} (G : FnOk X.prog X.w X.K X.mg X.base CX0 k f fd ps sp) (pr : PromE bk X.K sp c) (hr : Room k X.A) (hg : Gl X x) (hm : X.mg x = some (.ref f)) (hk : PySem.W.keepIn X.K (.ref f) = true) (hb : KB X.K fd ps 0 ks idx) (hl : ks.length = m)
    (hkw : QK bk X kws fk) (hall : (backToKw pos (keywordEach kws X.env)).all (·.1.isSome) = true := by rfl) (hks : (backToKw pos (keywordEach kws X.env)).filterMap (·.1) = ks := by rfl)
    (hdb : (x == ("__debug__" : Str)) = false := by decide)
    (hpl : ((backTo pos (starEach [] X.env)).any (·.1) || (backToKw pos (keywordEach kws X.env)).any (·.1.isNone)) = false := by rfl) : QE bk X (.Call (.Name x p) [] kws pos) (pCl c (pPick idx (pApp 0 m pANil fk))) := by
  obtain ⟨tb, pb, wb⟩ := hkw.ex
  refine ⟨fun σ H Q => tb σ H fun zs H2 => zs.length = ks.length ∧ sp (pick idx ([] ++ zs)) H2 Q E0, ⟨fun pins s σ H Q I h => ?_⟩, fun E M ρ S σ H Q Q' R q p => ?_⟩
  · refine wpAny_Call_Name_kw (ld_glob I hg hm ?_ hdb)
    refine PySem.W.callWith_KW0 (h₀ := X.base) I.ok.mod.kin hk hall (thn (pb.run pos pins s σ H _ I h) fun ws s2 ⟨zs, H2, I2, rz, l2, q2⟩ => ⟨I2.kIn, ?_⟩) hpl
    rw [hks]
    exact run_kb (us := []) (vs := []) G hr hb I2 .nil rz rfl l2 q2
  · refine wb E M ρ S σ H _ _ R q fun M2 S2 H2 y w t2 s2 r2 q2 => ?_
    refine ⟨by rw [r2.length, hl]; exact q2.2.1, ?_⟩
    exact pr M2 S2 H2 _ _ Q Q' _ s2 (Rps.pick idx (Rps.append .nil r2)) q2.2.2 (p.after t2)
theorem q_callK {c : PCl} {n m : Nat} {idx : List Nat} (G : FnOk X.prog X.w X.K X.mg X.base CX0 k f fd ps sp) (pr : PromE bk X.K sp c) (hr : Room k X.A) (hg : Gl X x) (hm : X.mg x = some (.ref f)) (hk : PySem.W.keepIn X.K (.ref f) = true) (hb : KB X.K fd ps n ks idx) (hl : ks.length = m)
    (ha : QA bk X (e :: es) fa) (hkw : QK bk X kws fk) (hall : (backToKw pos (keywordEach kws X.env)).all (·.1.isSome) = true := by rfl) (hks : (backToKw pos (keywordEach kws X.env)).filterMap (·.1) = ks := by rfl)
    (hdb : (x == ("__debug__" : Str)) = false := by decide) (he : starEach (e :: es) X.env = (false, eval e X.env) :: starEach es X.env := by rfl)
    (hpl : ((backTo pos (starEach (e :: es) X.env)).any (·.1) || (backToKw pos (keywordEach kws X.env)).any (·.1.isNone)) = false := by rfl) :
    QE bk X (.Call (.Name x p) (e :: es) kws pos) (pCl c (pPick idx (pApp n m fa fk))) := by
  obtain ⟨ta, pa, wa⟩ := ha.ex
  obtain ⟨tb, pb, wb⟩ := hkw.ex
  refine ⟨fun σ H Q => ta σ H fun vs H1 => tb σ H1 fun zs H2 => vs.length = n ∧ zs.length = ks.length ∧ sp (pick idx (vs ++ zs)) H2 Q E0, ⟨fun pins s σ H Q I h => ?_⟩, fun E M ρ S σ H Q Q' R q p => ?_⟩
  · refine wpAny_Call_Name_kw (ld_glob I hg hm ?_ hdb)
    refine PySem.W.callWith_KW (h₀ := X.base) I.ok.mod.kin hk hall (thn (pa.run pos pins s σ H _ I h) fun us s1 ⟨vs, H1, I1, r, q⟩ => ?_) hpl he
    refine thn (pb.run pos pins s1 σ H1 _ I1 q) fun ws s2 ⟨zs, H2, I2, rz, l1, l2, q2⟩ => ⟨I2.kIn, ?_⟩
    rw [hks]
    exact run_kb G hr hb I2 r rz l1 l2 q2
  · refine wa E M ρ S σ H _ _ R q fun M1 S1 H1 x v t1 s1 r1 q1 => ?_
    refine wb E M1 ρ S1 σ H1 _ _ (R.step t1 s1) q1 fun M2 S2 H2 y w t2 s2 r2 q2 => ?_
    refine ⟨by rw [r1.length]; exact q2.1, by rw [r2.length, hl]; exact q2.2.1, ?_⟩
    exact pr M2 S2 H2 _ _ Q Q' _ s2 (Rps.pick idx (Rps.append (r1.step s1 t2) r2)) q2.2.2 (p.after (t1.trans t2))
end
end L2.P3
namespace L2.P3
open PySem PySem.Spec PyProof.Rows

/-! ### sizes -/
/-- a product that the model reckons -/
def MulOk (i j : Int) : Prop := IntMulOk i j
/-- a divisor that the model divides by -/
def DivOk (j : Int) : Prop := j ≠ 0 ∧ j.natAbs.log2 < 9000

theorem OpP.or {bk : BagKind} {K : PySem.W.Frag} {r r' : R2} {o o' : PO2} (h : OpP bk K r o) (h' : OpP bk K r' o') : OpP bk K (fun x y H Q => r x y H Q ∨ r' x y H Q) (fun x y S Q => o x y S Q ∨ o' x y S Q) := fun M S H x y v w Q Q' s r1 r2 q p => by
  rcases q with q | q
  · exact .inl (h M S H x y v w Q Q' s r1 r2 q p)
  · exact .inr (h' M S H x y v w Q Q' s r1 r2 q p)
theorem OpP.imp {bk : BagKind} {K : PySem.W.Frag} {r : R2} {o o' : PO2} (h : OpP bk K r o) (i : ∀ x y S Q, o' x y S Q → o x y S Q) : OpP bk K r o' := fun M S H x y v w Q Q' s r1 r2 q p => h M S H x y v w Q Q' s r1 r2 (i _ _ _ _ q) p

/-! ### + -/
def oAdd : PO2 := fun x y S Q => match x, y with
  | .int i, .int j => Q (.int (i + j)) S
  | .str a, .str b => a.length + b.length ≤ 16777216 ∧ Q (.str (a ++ b)) S
  | .tup a, .tup b => a.length + b.length ≤ 16777216 ∧ Q (.tup (a ++ b)) S
  | .lst a, .lst b => onO S[a]? fun xs => onO S[b]? fun ys => xs.length + ys.length ≤ 16777216 ∧ Q (.lst S.length) (S ++ [xs ++ ys])
  | .int i, .bl b => Q (.int (i + b2i b)) S
  | _, _ => False
instance : Mo2 oAdd := ⟨fun {x y _ _ _} h q => by
  unfold oAdd at q ⊢
  split at q <;> first | exact h _ _ q | exact ⟨q.1, h _ _ q.2⟩ | exact q.elim | exact onO_mo (fun _ q => onO_mo (fun _ q => ⟨q.1, h _ _ q.2⟩) q) q⟩
section
variable {X : Cx} {bk : BagKind} {K : PySem.W.Frag}
def rAdd (K : PySem.W.Frag) : R2 := fun x y H Q => rI0 (fun i j => .int (i + j)) x y H Q ∨ (∃ i j, x = .str i ∧ y = .str j ∧ i.length + j.length ≤ sizeLine ∧ Q (.str (i ++ j)) H) ∨ rCatA K x y H Q ∨ rCat x y H Q ∨ (∃ i k, x = .int i ∧ y = .bl k ∧ Q (.int (i + b2i k)) H)
theorem op_addX : OpR X (binaryOp .Add) (rAdd X.K) := op_add.or (op_add_str.or (op_catA.or (op_cat.or op_add_ib)))
theorem rps_nil_iff {M : Am} {H : Hp} {r : Nat} {xs : List PV} {vs : List V} (h : Rps K r M H xs vs) : vs = [] ↔ xs = [] := by
  have := h.length
  constructor
  · intro e; subst e; exact List.eq_nil_of_length_eq_zero (by simpa using this.symm)
  · intro e; subst e; exact List.eq_nil_of_length_eq_zero (by simpa using this)
theorem oAddP : OpP bk K (rAdd K) oAdd := fun M S H x y v w Q Q' s r1 r2 q p => by
  unfold oAdd at q
  split at q
  · rw [rp_int r1, rp_int r2]; exact .inl ⟨_, _, rfl, rfl, p M S H _ _ (.refl M H) s to_int q⟩
  · rw [rp_str r1, rp_str r2]; exact .inr (.inl ⟨_, _, rfl, rfl, by rw [szl]; exact q.1, p M S H _ _ (.refl M H) s to_str q.2⟩)
  · obtain ⟨a, xs, rfl, h1, s1⟩ := rp_tup r1
    obtain ⟨b, ys, rfl, h2, s2⟩ := rp_tup r2
    refine .inr (.inr (.inl ⟨a, b, xs, ys, rfl, rfl, h1, h2, by rw [s1.length, s2.length, szl]; exact q.1, fun e => ?_, fun _ e => ?_, fun _ _ => p.tup s (s1.append s2) q.2⟩))
    · have e' := (rps_nil_iff s1).mp e
      rw [e', List.nil_append] at q
      exact p M S H _ _ (.refl M H) s r2 q.2
    · have e' := (rps_nil_iff s2).mp e
      rw [e', List.append_nil] at q
      exact p M S H _ _ (.refl M H) s r1 q.2
  · obtain ⟨xs, e1, q⟩ := onO_ex q
    obtain ⟨ys, e2, hl, q⟩ := onO_ex q
    obtain ⟨a, ea, rfl⟩ := rp_lst r1
    obtain ⟨b, eb, rfl⟩ := rp_lst r2
    obtain ⟨vs, h1, s1⟩ := s.lst ea e1
    obtain ⟨ws, h2, s2⟩ := s.lst eb e2
    exact .inr (.inr (.inr (.inl ⟨a, b, vs, ws, rfl, rfl, h1, h2, by rw [s1.length, s2.length, szl]; exact hl, p.lst s (s1.append s2) q⟩)))
  · rw [rp_int r1, rp_bl r2]; exact .inr (.inr (.inr (.inr ⟨_, _, rfl, rfl, p M S H _ _ (.refl M H) s to_int q⟩)))
  · exact q.elim
end

/-! ### ints -/
def oI (C : Int → Int → Prop) (g : Int → Int → PV) : PO2 := fun x y S Q => match x, y with
  | .int i, .int j => C i j ∧ Q (g i j) S
  | _, _ => False
def oI0 (g : Int → Int → PV) : PO2 := fun x y S Q => match x, y with
  | .int i, .int j => Q (g i j) S
  | _, _ => False
instance {C g} : Mo2 (oI C g) := ⟨fun h q => by unfold oI at q ⊢; split at q <;> first | exact ⟨q.1, h _ _ q.2⟩ | exact q.elim⟩
instance {g} : Mo2 (oI0 g) := ⟨fun h q => by unfold oI0 at q ⊢; split at q <;> first | exact h _ _ q | exact q.elim⟩
def oSub := oI0 fun i j => .int (i - j)
def oMul : PO2 := fun x y S Q => match x, y with
  | .int i, .int j => MulOk i j ∧ Q (.int (i * j)) S
  | .tup xs, .int k => (xs ≠ [] ∧ 2 ≤ k ∧ k ≤ 1000 ∧ xs.length ≤ 1000) ∧ Q (.tup (List.replicate k.toNat xs).flatten) S
  | .lst a, .int k => onO S[a]? fun xs => (-(2 ^ 63) ≤ k ∧ k < 2 ^ 63 ∧ xs.length * k.toNat ≤ 16777216) ∧ Q (.lst S.length) (S ++ [(List.replicate k.toNat xs).flatten])
  | _, _ => False
instance : Mo2 oMul := ⟨fun h q => by
  unfold oMul at q ⊢
  split at q <;> first | exact ⟨q.1, h _ _ q.2⟩ | exact q.elim | exact onO_mo (fun _ q => ⟨q.1, h _ _ q.2⟩) q⟩
def oFdiv : PO2 := fun x y S Q => match x, y with
  | .int i, .int j => DivOk j ∧ Q (.int (i.fdiv j)) S
  | _, _ => False
def oMod : PO2 := fun x y S Q => match x, y with
  | .int i, .int j => j ≠ 0 ∧ Q (.int (i.fmod j)) S
  | _, _ => False
def oPow := oI CPow fun i j => .int (i ^ j.toNat)
def oShl := oI CPow fun i j => .int (i * 2 ^ j.toNat)
def oShr := oI (fun _ j => 0 ≤ j) fun i j => .int (i / 2 ^ j.toNat)
def oLt := oI0 fun i j => .bl (decide (i < j))
def oLe := oI0 fun i j => .bl (decide (i ≤ j))
def oGt := oI0 fun i j => .bl (decide (j < i))
def oGe := oI0 fun i j => .bl (decide (j ≤ i))
instance : Mo2 oSub := inferInstanceAs (Mo2 (oI0 _))
instance : Mo2 oFdiv := inferInstanceAs (Mo2 (oI _ _))
instance : Mo2 oMod := inferInstanceAs (Mo2 (oI _ _))
instance : Mo2 oPow := inferInstanceAs (Mo2 (oI _ _))
instance : Mo2 oShl := inferInstanceAs (Mo2 (oI _ _))
instance : Mo2 oShr := inferInstanceAs (Mo2 (oI _ _))
instance : Mo2 oLt := inferInstanceAs (Mo2 (oI0 _))
instance : Mo2 oLe := inferInstanceAs (Mo2 (oI0 _))
instance : Mo2 oGt := inferInstanceAs (Mo2 (oI0 _))
instance : Mo2 oGe := inferInstanceAs (Mo2 (oI0 _))
section
variable {X : Cx} {bk : BagKind} {K : PySem.W.Frag}
theorem oIP {C : Int → Int → Prop} {g : Int → Int → PV} {g' : Int → Int → V} (h : ∀ i j M H, Rp K bk.root M H (g i j) (g' i j)) : OpP bk K (rI C g') (oI C g) := fun M S H x y v w Q Q' s r1 r2 q p => by
  unfold oI at q
  split at q
  · rw [rp_int r1, rp_int r2]; exact ⟨_, _, rfl, rfl, q.1, p M S H _ _ (.refl M H) s (h _ _ M H) q.2⟩
  · exact q.elim
theorem oI0P {g : Int → Int → PV} {g' : Int → Int → V} (h : ∀ i j M H, Rp K bk.root M H (g i j) (g' i j)) : OpP bk K (rI0 g') (oI0 g) := fun M S H x y v w Q Q' s r1 r2 q p => by
  unfold oI0 at q
  split at q
  · rw [rp_int r1, rp_int r2]; exact ⟨_, _, rfl, rfl, p M S H _ _ (.refl M H) s (h _ _ M H) q⟩
  · exact q.elim
theorem op_mulX : OpR X (binaryOp .Mult) (rI MulOk fun i j => .int (i * j)) := opI fun _ _ _ _ _ _ _ hc q => mul_int q hc
theorem iop_mulX : OpR X (inplaceOp .Mult) (rI MulOk fun i j => .int (i * j)) := opI fun _ _ _ _ _ _ _ hc q => imul_int q hc
theorem op_fdivX : OpR X (binaryOp .FloorDiv) (rI (fun _ j => DivOk j) fun i j => .int (i.fdiv j)) := opI fun i j _ _ _ _ _ hc q => floordiv_int hc.1 q (.inl (PyProof.noPylong_of_log2 hc.2))
def rMul (K : PySem.W.Frag) : R2 := fun x y H Q => rI MulOk (fun i j => .int (i * j)) x y H Q ∨ rRepT K x y H Q ∨ rRep x y H Q
theorem op_mulA : OpR X (binaryOp .Mult) (rMul X.K) := op_mulX.or (op_repT.or op_rep)
theorem rps_rep {M : Am} {H : Hp} {r : Nat} {xs : List PV} {vs : List V} (h : Rps K r M H xs vs) : ∀ n : Nat, Rps K r M H (List.replicate n xs).flatten (List.replicate n vs).flatten
  | 0 => by simpa using Rps.nil
  | n + 1 => by
    simp only [List.replicate_succ, List.flatten_cons]
    exact h.append (rps_rep h n)
theorem oMulP : OpP bk K (rMul K) oMul := fun M S H x y v w Q Q' s r1 r2 q p => by
  unfold oMul at q
  split at q
  · rw [rp_int r1, rp_int r2]; exact .inl ⟨_, _, rfl, rfl, q.1, p M S H _ _ (.refl M H) s to_int q.2⟩
  · obtain ⟨a, vs, rfl, h1, s1⟩ := rp_tup r1
    rw [rp_int r2]
    exact .inr (.inl ⟨a, _, vs, rfl, rfl, h1, fun e => q.1.1 ((rps_nil_iff s1).mp e), q.1.2.1, q.1.2.2.1, by rw [s1.length]; exact q.1.2.2.2, p.tup s (rps_rep s1 _) q.2⟩)
  · obtain ⟨xs, e1, hl, q⟩ := onO_ex q
    obtain ⟨a, ea, rfl⟩ := rp_lst r1
    obtain ⟨vs, h1, s1⟩ := s.lst ea e1
    rw [rp_int r2]
    exact .inr (.inr ⟨a, _, vs, rfl, rfl, h1, hl.1, hl.2.1, by rw [s1.length, szl]; exact hl.2.2, p.lst s (rps_rep s1 _) q⟩)
  · exact q.elim
theorem oSubP : OpP bk K (rI0 fun i j => .int (i - j)) oSub := oI0P fun _ _ _ _ => to_int
theorem oFdivP : OpP bk K (rI (fun _ j => DivOk j) fun i j => .int (i.fdiv j)) oFdiv := oIP fun _ _ _ _ => to_int
theorem oModP : OpP bk K (rI (fun _ j => j ≠ 0) fun i j => .int (i.fmod j)) oMod := oIP fun _ _ _ _ => to_int
theorem oPowP : OpP bk K (rI CPow fun i j => .int (i ^ j.toNat)) oPow := oIP fun _ _ _ _ => to_int
theorem oShlP : OpP bk K (rI CPow fun i j => .int (i * 2 ^ j.toNat)) oShl := oIP fun _ _ _ _ => to_int
theorem oShrP : OpP bk K (rI (fun _ j => 0 ≤ j) fun i j => .int (i / 2 ^ j.toNat)) oShr := oIP fun _ _ _ _ => to_int
theorem oLtP : OpP bk K (rI0 fun i j => .bl (decide (i < j))) oLt := oI0P fun _ _ _ _ => to_bl
theorem oLeP : OpP bk K (rI0 fun i j => .bl (decide (i ≤ j))) oLe := oI0P fun _ _ _ _ => to_bl
theorem oGtP : OpP bk K (rI0 fun i j => .bl (decide (j < i))) oGt := oI0P fun _ _ _ _ => to_bl
theorem oGeP : OpP bk K (rI0 fun i j => .bl (decide (j ≤ i))) oGe := oI0P fun _ _ _ _ => to_bl
theorem iop_addX : OpR X (inplaceOp .Add) (rI0 fun i j => .int (i + j)) := iop_add
def oAddI := oI0 fun i j => .int (i + j)
instance : Mo2 oAddI := inferInstanceAs (Mo2 (oI0 _))
theorem oAddIP : OpP bk K (rI0 fun i j => .int (i + j)) oAddI := oI0P fun _ _ _ _ => to_int
def oMulI := oI MulOk fun i j => .int (i * j)
instance : Mo2 oMulI := inferInstanceAs (Mo2 (oI _ _))
theorem oMulIP : OpP bk K (rI MulOk fun i j => .int (i * j)) oMulI := oIP fun _ _ _ _ => to_int
/-- -x -/
def oNeg : PO1 := fun x S Q => match x with | .int i => Q (.int (-i)) S | _ => False
instance : Mo1 oNeg := ⟨fun h q => by unfold oNeg at q ⊢; split at q <;> first | exact h _ _ q | exact q.elim⟩
theorem oNegP : UnP bk K (rU fun i => .int (-i)) oNeg := fun M S H x v Q Q' s r q p => by
  unfold oNeg at q
  split at q
  · rw [rp_int r]; exact ⟨_, rfl, p M S H _ _ (.refl M H) s to_int q⟩
  · exact q.elim

/-! ### == -/
mutual
/-- == of values: none where the two are of kinds that it does not serve -/
def peq : PV → PV → Option Bool
  | .non, .non => some true
  | .non, .int _ => some false | .int _, .non => some false | .non, .bl _ => some false | .bl _, .non => some false | .non, .str _ => some false | .str _, .non => some false
  | .int i, .int j => some (decide (i = j))
  | .bl i, .bl j => some (decide (i = j))
  | .str i, .str j => some (decide (i = j))
  | .int _, .str _ => some false | .str _, .int _ => some false | .bl _, .str _ => some false | .str _, .bl _ => some false
  | _, _ => none
end
def oEq : PO2 := fun x y S Q => onO (peq x y) fun b => Q (.bl b) S
def oNe : PO2 := fun x y S Q => onO (peq x y) fun b => Q (.bl (!b)) S
instance : Mo2 oEq := ⟨fun h q => onO_mo (fun _ q => h _ _ q) q⟩
instance : Mo2 oNe := ⟨fun h q => onO_mo (fun _ q => h _ _ q) q⟩
def sv : PV → Option V
  | .non => some .non
  | .bl b => some (.bl b)
  | .int i => some (.int i)
  | .str x => some (.str x)
  | _ => none
theorem peq_scal {x y : PV} {b : Bool} (h : peq x y = some b) {M : Am} {H : Hp} {r : Nat} {v w : V} (r1 : Rp K r M H x v) (r2 : Rp K r M H y w) : scal v w = true ∧ decide (v = w) = b := by
  cases x <;> cases y <;> first
    | (simp [peq] at h; done)
    | (simp only [peq, Option.some.injEq] at h
       simp only [Rp] at r1 r2
       subst r1 r2
       subst h
       simp [scal])
theorem oEqP : OpP bk K rEq oEq := fun M S H x y v w Q Q' s r1 r2 q p => by
  obtain ⟨b, e, q⟩ := onO_ex q
  obtain ⟨h1, h2⟩ := peq_scal e r1 r2
  exact ⟨h1, p M S H _ _ (.refl M H) s (by rw [h2]; exact to_bl) q⟩
theorem oNeP : OpP bk K rNe oNe := fun M S H x y v w Q Q' s r1 r2 q p => by
  obtain ⟨b, e, q⟩ := onO_ex q
  obtain ⟨h1, h2⟩ := peq_scal e r1 r2
  exact ⟨h1, p M S H _ _ (.refl M H) s (by rw [h2]; exact to_bl) q⟩
/-- is None -/
def isNon : PV → Bool
  | .non => true
  | _ => false
theorem isNon_of {x : PV} {v : V} {M : Am} {H : Hp} {r : Nat} (h : Rp K r M H x v) : decide (v = .non) = isNon x := by
  cases x <;> simp only [Rp] at h
  case non => subst h; rfl
  case bl => subst h; rfl
  case int => subst h; rfl
  case str => subst h; rfl
  case tup => obtain ⟨a, vs, rfl, _⟩ := h; rfl
  case lst => obtain ⟨a, _, _, rfl⟩ := h; rfl
  case dic => obtain ⟨a, _, _, rfl⟩ := h; rfl
  case obj => obtain ⟨a, _, _, _, _, _, rfl⟩ := h; rfl
  case rol => obtain ⟨a, vs, rfl, _⟩ := h; rfl
  case bag => obtain ⟨o, a, _, _, rfl⟩ := h; rfl
def oIsN : PO2 := fun x y S Q => match y with | .non => Q (.bl (isNon x)) S | _ => False
def oNotN : PO2 := fun x y S Q => match y with | .non => Q (.bl (!isNon x)) S | _ => False
instance : Mo2 oIsN := ⟨fun h q => by unfold oIsN at q ⊢; split at q <;> first | exact h _ _ q | exact q.elim⟩
instance : Mo2 oNotN := ⟨fun h q => by unfold oNotN at q ⊢; split at q <;> first | exact h _ _ q | exact q.elim⟩
theorem oIsNP : OpP bk K (fun x y H Q => y = .non ∧ Q (.bl (decide (x = .non))) H) oIsN := fun M S H x y v w Q Q' s r1 r2 q p => by
  unfold oIsN at q
  split at q
  · exact ⟨rp_non r2, p M S H _ _ (.refl M H) s (by rw [isNon_of r1]; exact to_bl) q⟩
  · exact q.elim
theorem oNotNP : OpP bk K (fun x y H Q => y = .non ∧ Q (.bl (!decide (x = .non))) H) oNotN := fun M S H x y v w Q Q' s r1 r2 q p => by
  unfold oNotN at q
  split at q
  · exact ⟨rp_non r2, p M S H _ _ (.refl M H) s (by rw [isNon_of r1]; exact to_bl) q⟩
  · exact q.elim
end

/-! ### subscripts -/
def oIx : PO2 := fun x y S Q => match x, y with
  | .tup xs, .int i => onO (atI xs i) fun z => Q z S
  | .rol xs, .int i => onO (atI xs i) fun z => Q z S
  | .lst n, .int i => onO S[n]? fun xs => onO (atI xs i) fun z => Q z S
  | .str z, .int i => z.length ≤ 16777216 ∧ onO (atI z.cps.toList i) fun c => Q (.str ⟨#[c]⟩) S
  | _, _ => False
instance : Mo2 oIx := ⟨fun h q => by
  unfold oIx at q ⊢
  split at q
  · exact onO_mo (fun _ q => h _ _ q) q
  · exact onO_mo (fun _ q => h _ _ q) q
  · exact onO_mo (fun _ q => onO_mo (fun _ q => h _ _ q) q) q
  · exact ⟨q.1, onO_mo (fun _ q => h _ _ q) q.2⟩
  · exact q.elim⟩
section
variable {bk : BagKind} {K : PySem.W.Frag} {X : Cx}
theorem Rps.atI {M : Am} {H : Hp} {r : Nat} {xs : List PV} {vs : List V} {i : Int} {z : PV} (h : Rps K r M H xs vs) (e : atI xs i = some z) : ∃ v, L2.atI vs i = some v ∧ Rp K r M H z v := by
  unfold L2.atI at e ⊢
  rw [h.length]
  cases q : ixN xs.length i with
  | none => rw [q] at e; simp at e
  | some j =>
    rw [q] at e
    obtain ⟨v, e1, e2⟩ := h.get (i := j) (x := z) e
    exact ⟨v, e1, e2⟩
theorem oIxP : OpP bk K (rIx K) oIx := fun M S H x y v w Q Q' s r1 r2 q p => by
  unfold oIx at q
  split at q
  · obtain ⟨z, e, q⟩ := onO_ex q
    obtain ⟨a, vs, rfl, h1, s1⟩ := rp_tup r1
    obtain ⟨u, eu, ru⟩ := s1.atI e
    exact .inr (.inl ⟨a, vs, _, u, rfl, rp_int r2, h1, eu, p M S H _ _ (.refl M H) s ru q⟩)
  · obtain ⟨z, e, q⟩ := onO_ex q
    obtain ⟨a, vs, rfl, h1, s1⟩ := rp_rol r1
    obtain ⟨u, eu, ru⟩ := s1.atI e
    exact .inl ⟨a, vs, _, u, rfl, rp_int r2, h1.sq, eu, p M S H _ _ (.refl M H) s ru q⟩
  · obtain ⟨xs, e1, q⟩ := onO_ex q
    obtain ⟨z, e, q⟩ := onO_ex q
    obtain ⟨a, ea, rfl⟩ := rp_lst r1
    obtain ⟨vs, h1, s1⟩ := s.lst ea e1
    obtain ⟨u, eu, ru⟩ := s1.atI e
    exact .inl ⟨a, vs, _, u, rfl, rp_int r2, SqL.of h1, eu, p M S H _ _ (.refl M H) s ru q⟩
  · obtain ⟨l, q⟩ := q
    obtain ⟨c, e, q⟩ := onO_ex q
    exact .inr (.inr ⟨_, _, c, rp_str r1, rp_int r2, by rw [szl]; exact l, e, p M S H _ _ (.refl M H) s to_str q⟩)
  · exact q.elim
theorem q_ix {a b : Expr} {f g : PTE} {pos : Pos} (ha : QE bk X a f) (hb : QE bk X b g) (hs : PlainIx b) : QE bk X (.Subscript a b pos) (pOp oIx f g) := by
  obtain ⟨ta, pa, wa⟩ := ha.ex
  obtain ⟨tb, pb, wb⟩ := hb.ex
  refine ⟨_, pe_ix ix_seq pa pb hs, fun E M ρ S σ H Q Q' R q p => ?_⟩
  refine wa E M ρ S σ H _ _ R q fun M1 S1 H1 x v t1 s1 r1 q1 => ?_
  refine wb E M1 ρ S1 σ H1 _ _ (R.step t1 s1) q1 fun M2 S2 H2 y w t2 s2 r2 q2 => ?_
  exact oIxP M2 S2 H2 x y v w Q Q' s2 (r1.step s1 t2) r2 q2 (p.after (t1.trans t2))
/-- xs with x at the place i -/
def setI (xs : List PV) (i : Int) (x : PV) : Option (List PV) := (ixN xs.length i).map fun j => xs.set j x
/-- a[i] = v -/
def gIx (f g : PTE) : PTG := fun E x ρ S Q => f E ρ S fun o S1 => g E ρ S1 fun i S2 => match o, i with
  | .lst n, .int i => onO S2[n]? fun xs => onO (setI xs i x) fun ys => Q ρ (S2.set n ys)
  | _, _ => False
instance {f g : PTE} [MoE f] [MoE g] : MoG (gIx f g) := ⟨fun h q => MoE.mo (f := f) (fun _ _ q => MoE.mo (f := g) (fun _ _ q => by
  split at q
  · exact onO_mo (fun _ q => onO_mo (fun _ q => h _ _ q) q) q
  · exact q.elim) q) q⟩
theorem g_ix {a b : Expr} {f g : PTE} {pos : Pos} (hf : QE bk X a f) (hg : QE bk X b g)
    (hh : ∀ v, assign (.Subscript a b pos) X.env v = (do
      let ov ← holding [v] (eval a X.env)
      let iv ← holding [v, ov] (eval b X.env)
      standAt pos
      holding [v, ov, iv] (setItem ov iv v)
      release [v, ov, iv] []) := by intro _; rfl) : QG bk X (.Subscript a b pos) (gIx f g) := by
  obtain ⟨ta, pa, wa⟩ := hf.ex
  obtain ⟨tb, pb, wb⟩ := hg.ex
  refine ⟨_, pg_sub pa pb set_list hh, fun E M ρ S σ H x v Q Q' R r q p => ?_⟩
  refine wa E M ρ S σ H _ _ R q fun M1 S1 H1 o ov t1 s1 r1 q1 => ?_
  refine wb E M1 ρ S1 σ H1 _ _ (R.step t1 s1) q1 fun M2 S2 H2 y w t2 s2 r2 q2 => ?_
  cases o <;> cases y <;> first | exact q2.elim | skip
  rename_i n i
  obtain ⟨xs, e1, q2⟩ := onO_ex q2
  obtain ⟨ys, e2, q2⟩ := onO_ex q2
  unfold setI at e2
  obtain ⟨j, e3, rfl⟩ := Option.map_eq_some_iff.mp e2
  obtain ⟨l, el, rfl⟩ := rp_lst (r1.step s1 t2)
  obtain ⟨vs, h1, sl⟩ := s2.lst el e1
  refine ⟨l, vs, i, j, rfl, rp_int r2, h1, by rw [sl.length]; exact e3, ?_⟩
  obtain ⟨t3, s3⟩ := s2.write el (sl.set j ((r.step R.sto t1).step s1 t2))
  have tt := t1.trans (t2.trans t3)
  exact p M2 ρ _ σ _ tt (R.step tt s3) q2
end

/-! ### slices -/
/-- the items of xs[lo:hi] -/
def cutP {α : Type} (xs : List α) (lo hi : Option Int) : List α := (xs.drop (HT.sIx xs.length 0 lo)).take (HT.sIx xs.length xs.length hi - HT.sIx xs.length 0 lo)
def pNoPart : PTO := fun _ _ S Q => Q none S
def pPart (f : PTE) : PTO := fun E ρ S Q => f E ρ S fun x S1 => match x with | .int i => Q (some i) S1 | _ => False
instance : MoO pNoPart := ⟨fun h q => h _ _ q⟩
instance {f : PTE} [MoE f] : MoO (pPart f) := ⟨fun h q => MoE.mo (f := f) (fun x _ q => by cases x <;> first | exact h _ _ q | exact q.elim) q⟩
def pSl (f : PTE) (lo hi : PTO) : PTE := fun E ρ S Q => f E ρ S fun x S1 => lo E ρ S1 fun l S2 => hi E ρ S2 fun u S3 => match x with
  | .tup xs => Q (.tup (cutP xs l u)) S3
  | .lst n => onO S3[n]? fun xs => Q (.lst S3.length) (S3 ++ [cutP xs l u])
  | .rol xs => Q (.lst S3.length) (S3 ++ [cutP xs l u])
  | .str z => z.length ≤ 16777216 ∧ Q (.str (cutS z l u)) S3
  | _ => False
instance {f : PTE} {lo hi : PTO} [MoE f] [MoO lo] [MoO hi] : MoE (pSl f lo hi) := ⟨fun h q => MoE.mo (f := f) (fun _ _ q => MoO.mo (f := lo) (fun _ _ q => MoO.mo (f := hi) (fun _ _ q => by
  split at q
  · exact h _ _ q
  · exact onO_mo (fun _ q => h _ _ q) q
  · exact h _ _ q
  · exact ⟨q.1, h _ _ q.2⟩
  · exact q.elim) q) q) q⟩
section
variable {bk : BagKind} {K : PySem.W.Frag} {X : Cx} {e : Expr} {f : PTE} {pos p2 : Pos}
theorem qo_none : QO bk X none pNoPart := ⟨_, po_none, fun E M ρ S σ H Q Q' R q p => p M S H _ (.refl M H) R.sto q⟩
theorem qo_some (h : QE bk X e f) : QO bk X (some e) (pPart f) := by
  obtain ⟨ta, pa, wa⟩ := h.ex
  refine ⟨_, po_some pa, fun E M ρ S σ H Q Q' R q p => ?_⟩
  refine wa E M ρ S σ H _ _ R q fun M1 S1 H1 x v t1 s1 r1 q1 => ?_
  cases x <;> first | exact q1.elim | exact ⟨_, rp_int r1, p M1 S1 H1 _ t1 s1 q1⟩
theorem Rps.drop {M : Am} {H : Hp} {r : Nat} : ∀ {xs : List PV} {vs : List V} (n : Nat), Rps K r M H xs vs → Rps K r M H (xs.drop n) (vs.drop n)
  | xs, vs, 0, h => by simpa using h
  | [], vs, n + 1, h => by rw [Rps] at h; subst h; simpa using Rps.nil
  | x :: xs, vs, n + 1, h => by
    rw [Rps] at h
    obtain ⟨v, ws, rfl, h1, h2⟩ := h
    simpa using Rps.drop n h2
theorem Rps.take {M : Am} {H : Hp} {r : Nat} : ∀ {xs : List PV} {vs : List V} (n : Nat), Rps K r M H xs vs → Rps K r M H (xs.take n) (vs.take n)
  | xs, vs, 0, h => by simpa using Rps.nil
  | [], vs, n + 1, h => by rw [Rps] at h; subst h; simpa using Rps.nil
  | x :: xs, vs, n + 1, h => by
    rw [Rps] at h
    obtain ⟨v, ws, rfl, h1, h2⟩ := h
    exact Rps.cons h1 (Rps.take n h2)
theorem Rps.cutV {M : Am} {H : Hp} {r : Nat} {xs : List PV} {vs : List V} (h : Rps K r M H xs vs) (lo hi : Option Int) : Rps K r M H (cutP xs lo hi) (L2.cutV vs lo hi) := by
  unfold cutP L2.cutV
  rw [h.length]
  exact (h.drop _).take _
theorem q_sl {lo hi : Option Expr} {fl fh : PTO} (he : QE bk X e f) (hl : QO bk X lo fl) (hu : QO bk X hi fh) : QE bk X (.Subscript e (.Slice lo hi none p2) pos) (pSl f fl fh) := by
  obtain ⟨ta, pa, wa⟩ := he.ex
  obtain ⟨tb, pb, wb⟩ := hl.ex
  obtain ⟨tc, pc, wc⟩ := hu.ex
  refine ⟨_, pe_slice (sl_tupA.or (sl_list.or sl_str)) pa pb pc, fun E M ρ S σ H Q Q' R q p => ?_⟩
  refine wa E M ρ S σ H _ _ R q fun M1 S1 H1 x v t1 s1 r1 q1 => ?_
  refine wb E M1 ρ S1 σ H1 _ _ (R.step t1 s1) q1 fun M2 S2 H2 l t2 s2 q2 => ?_
  refine wc E M2 ρ S2 σ H2 _ _ (R.step (t1.trans t2) s2) q2 fun M3 S3 H3 u t3 s3 q3 => ?_
  have p3 := p.after (t1.trans (t2.trans t3))
  have r3 := (r1.step s1 t2).step s2 t3
  cases x <;> first | exact q3.elim | skip
  · exact .inr (.inr ⟨_, rp_str r3, by rw [szl]; exact q3.1, p3 M3 S3 H3 _ _ (.refl M3 H3) s3 to_str q3.2⟩)
  · rename_i xs
    obtain ⟨a, vs, rfl, h1, sv⟩ := rp_tup r3
    refine .inl ⟨a, vs, rfl, h1, fun hw => ?_, fun _ => p3.tup s3 (sv.cutV l u) q3⟩
    have e : L2.cutV vs l u = vs := by
      unfold L2.cutV
      rw [hw.1, hw.2]; simp
    have e2 := sv.cutV l u
    rw [e] at e2
    exact p3 M3 S3 H3 _ _ (.refl M3 H3) s3 (to_tup h1 e2) q3
  · rename_i n
    obtain ⟨xs, e1, q3⟩ := onO_ex q3
    obtain ⟨a, ea, rfl⟩ := rp_lst r3
    obtain ⟨vs, h1, sv⟩ := s3.lst ea e1
    exact .inr (.inl ⟨a, vs, rfl, SqL.of h1, p3.lst s3 (sv.cutV l u) q3⟩)
  · rename_i xs
    obtain ⟨a, vs, rfl, h1, sv⟩ := rp_rol r3
    exact .inr (.inl ⟨a, vs, rfl, h1.sq, p3.lst s3 (sv.cutV l u) q3⟩)
end
end L2.P3
namespace L2.P3
open PySem PySem.Spec PyProof.Rows

/-! ### truth, chains, a, b = x, y -/
def pTruth (f : PTE) : PTT := fun E ρ S Q => f E ρ S fun x S1 => match x with
  | .non => Q false S1
  | .bl b => Q b S1
  | .int i => Q (i != 0) S1
  | .str z => z.length ≤ 16777216 ∧ Q ((z.length : Int) != 0) S1
  | .tup xs => Q (!xs.isEmpty) S1
  | .lst n => onO S1[n]? fun xs => Q (!xs.isEmpty) S1
  | .rol xs => Q (!xs.isEmpty) S1
  | _ => False
instance {f : PTE} [MoE f] : MoT (pTruth f) := ⟨fun h q => MoE.mo (f := f) (fun x _ q => by
  cases x <;> first | exact q.elim | exact h _ _ q | exact ⟨q.1, h _ _ q.2⟩ | exact onO_mo (fun _ q => h _ _ q) q) q⟩
def pChain (o o' : PO2) (f g h : PTE) : PTE := fun E ρ S Q => f E ρ S fun x S1 => g E ρ S1 fun y S2 => o x y S2 fun z S3 => match z with
  | .bl k => Br k (h E ρ S3 fun w S4 => o' y w S4 Q) (Q (.bl false) S3)
  | _ => False
instance {o o' : PO2} {f g h : PTE} [Mo2 o] [Mo2 o'] [MoE f] [MoE g] [MoE h] : MoE (pChain o o' f g h) := ⟨fun k q => MoE.mo (f := f) (fun _ _ q => MoE.mo (f := g) (fun _ _ q => Mo2.mo (o := o) (fun z _ q => by
  cases z <;> first | exact q.elim | skip
  rename_i b
  cases b
  · exact k _ _ q
  · exact MoE.mo (f := h) (fun _ _ q => Mo2.mo (o := o') k q) q) q) q) q⟩
def pPar (i j : Nat) (f g : PTE) : PTS := fun E D ρ S => f E ρ S fun x S1 => g E ρ S1 fun y S2 => D.nx ((ρ.set i (some x)).set j (some y)) S2
instance {i j : Nat} {f g : PTE} [MoE f] [MoE g] : MoS (pPar i j f g) := ⟨fun h q => MoE.mo (f := f) (fun _ _ q => MoE.mo (f := g) (fun _ _ q => h.nx _ _ q) q) q⟩
section
variable {bk : BagKind} {X : Cx} {a b c e : Expr} {f g h : PTE} {pos : Pos}
theorem isEmpty_rps {K : PySem.W.Frag} {M : Am} {H : Hp} {r : Nat} {xs : List PV} {vs : List V} (h : Rps K r M H xs vs) : vs.isEmpty = xs.isEmpty := by
  have := h.length
  cases xs <;> cases vs <;> first | rfl | simp at this
theorem qt_truth (ha : QE bk X a f) (he : ∀ whole, isTrue a X.env whole = (do let v ← whole; standAt a.pos; holding [v] (truthy v)) := by intro _; rfl) : QT bk X a (pTruth f) := by
  obtain ⟨ta, pa, wa⟩ := ha.ex
  refine ⟨_, pt_truth pa he, fun E M ρ S σ H Q Q' R q p => ?_⟩
  refine wa E M ρ S σ H _ _ R q fun M1 S1 H1 x v t1 s1 r1 q1 => ?_
  cases x
  · rw [rp_non r1]; exact ⟨_, rfl, p M1 S1 H1 _ t1 s1 q1⟩
  · rw [rp_bl r1]; exact ⟨_, rfl, p M1 S1 H1 _ t1 s1 q1⟩
  · rw [rp_int r1]; exact ⟨_, rfl, p M1 S1 H1 _ t1 s1 q1⟩
  · rw [rp_str r1]; exact ⟨_, ⟨by rw [szl]; exact q1.1, rfl⟩, p M1 S1 H1 _ t1 s1 q1.2⟩
  · obtain ⟨a, vs, rfl, h1, sv⟩ := rp_tup r1
    exact ⟨_, .inr (.inl ⟨vs, h1, rfl⟩), p M1 S1 H1 _ t1 s1 (by rw [isEmpty_rps sv]; exact q1)⟩
  · obtain ⟨xs, e1, q1⟩ := onO_ex q1
    obtain ⟨a, ea, rfl⟩ := rp_lst r1
    obtain ⟨vs, h1, sv⟩ := s1.lst ea e1
    exact ⟨_, .inl ⟨vs, SqL.of h1, rfl⟩, p M1 S1 H1 _ t1 s1 (by rw [isEmpty_rps sv]; exact q1)⟩
  · obtain ⟨a, vs, rfl, h1, sv⟩ := rp_rol r1
    exact ⟨_, .inl ⟨vs, h1.sq, rfl⟩, p M1 S1 H1 _ t1 s1 (by rw [isEmpty_rps sv]; exact q1)⟩
  all_goals exact q1.elim
theorem q_chain {op op' : CmpOp} {r r' : R2} {o o' : PO2} (ho : OpR X (compareOp op) r) (hp : OpP bk X.K r o) (ho' : OpR X (compareOp op') r') (hp' : OpP bk X.K r' o') (ha : QE bk X a f) (hb : QE bk X b g) (hc : QE bk X c h)
    (hm : lastMarks [op, op'] [b, c] = false := by with_unfolding_all rfl) : QE bk X (.Compare a [op, op'] [b, c] pos) (pChain o o' f g h) := by
  obtain ⟨ta, pa, wa⟩ := ha.ex
  obtain ⟨tb, pb, wb⟩ := hb.ex
  obtain ⟨tc, pc, wc⟩ := hc.ex
  refine ⟨_, pe_chain ho ho' pa pb pc hm, fun E M ρ S σ H Q Q' R q p => ?_⟩
  refine wa E M ρ S σ H _ _ R q fun M1 S1 H1 x v t1 s1 r1 q1 => ?_
  refine wb E M1 ρ S1 σ H1 _ _ (R.step t1 s1) q1 fun M2 S2 H2 y w t2 s2 r2 q2 => ?_
  refine hp M2 S2 H2 x y v w _ _ s2 (r1.step s1 t2) r2 q2 fun M3 S3 H3 z u t3 s3 r3 q3 => ?_
  cases z <;> first | exact q3.elim | skip
  rename_i k
  refine ⟨k, rp_bl r3, ?_⟩
  have t13 := t1.trans (t2.trans t3)
  cases k with
  | true =>
    rw [if_pos rfl]
    refine wc E M3 ρ S3 σ H3 _ _ (R.step t13 s3) q3 fun M4 S4 H4 y4 w4 t4 s4 r4 q4 => ?_
    exact hp' M4 S4 H4 y y4 w w4 Q Q' s4 ((r2.step s2 t3).step s3 t4) r4 q4 (p.after (t13.trans t4))
  | false =>
    rw [if_neg Bool.false_ne_true]
    exact p M3 S3 H3 _ _ t13 s3 to_bl q3
theorem qt_chain {op op' : CmpOp} {r r' : R2} {o o' : PO2} (ho : OpR X (compareOp op) r) (hp : OpP bk X.K r o) (ho' : OpR X (compareOp op') r') (hp' : OpP bk X.K r' o') (ha : QE bk X a f) (hb : QE bk X b g) (hc : QE bk X c h)
    (hm : lastMarks [op, op'] [b, c] = false := by with_unfolding_all rfl) : QT bk X (.Compare a [op, op'] [b, c] pos) (pTB (pChain o o' f g h)) := by
  obtain ⟨ta, pa, wa⟩ := ha.ex
  obtain ⟨tb, pb, wb⟩ := hb.ex
  obtain ⟨tc, pc, wc⟩ := hc.ex
  refine ⟨_, pt_chain ho ho' pa pb pc hm, fun E M ρ S σ H Q Q' R q p => ?_⟩
  refine wa E M ρ S σ H _ _ R q fun M1 S1 H1 x v t1 s1 r1 q1 => ?_
  refine wb E M1 ρ S1 σ H1 _ _ (R.step t1 s1) q1 fun M2 S2 H2 y w t2 s2 r2 q2 => ?_
  refine hp M2 S2 H2 x y v w _ _ s2 (r1.step s1 t2) r2 q2 fun M3 S3 H3 z u t3 s3 r3 q3 => ?_
  cases z <;> first | exact q3.elim | skip
  rename_i k
  refine ⟨k, rp_bl r3, ?_⟩
  have t13 := t1.trans (t2.trans t3)
  cases k with
  | true =>
    rw [if_pos rfl]
    refine wc E M3 ρ S3 σ H3 _ _ (R.step t13 s3) q3 fun M4 S4 H4 y4 w4 t4 s4 r4 q4 => ?_
    refine hp' M4 S4 H4 y y4 w w4 _ _ s4 ((r2.step s2 t3).step s3 t4) r4 q4 fun M5 S5 H5 z5 u5 t5 s5 r5 q5 => ?_
    cases z5 <;> first | exact q5.elim | exact ⟨_, rp_bl r5, p M5 S5 H5 _ (t13.trans (t4.trans t5)) s5 q5⟩
  | false =>
    rw [if_neg Bool.false_ne_true]
    exact ⟨_, rfl, p M3 S3 H3 _ t13 s3 q3⟩
theorem q_par {i j : Nat} {x y : Str} {px py pt : Pos} {kt k2 pt2} (hc : X.calm = true) (hN : X.N.Nodup) (hi : X.N[i]? = some x) (hj : X.N[j]? = some y) (hij : i ≠ j)
    (hx : X.env.scope.names.lookup x = some .local) (hy : X.env.scope.names.lookup y = some .local) (ha : QE bk X a f) (hb : QE bk X b g)
    (hw : swappedStores [.Tuple [.Name x px, .Name y py] kt pt] (.Tuple [a, b] k2 pt2) X.env = pure (some [x, y]))
    (hs : swapsWithSole [.Tuple [.Name x px, .Name y py] kt pt] (.Tuple [a, b] k2 pt2) pos.line X.env = pure false := by rfl)
    (he : starEach [a, b] X.env = (false, eval a X.env) :: starEach [b] X.env := by rfl) (he2 : starEach (b :: []) X.env = (false, eval b X.env) :: starEach [] X.env := by rfl) :
    QS bk X (.Assign [.Tuple [.Name x px, .Name y py] kt pt] (.Tuple [a, b] k2 pt2) pos) (pPar i j f g) := by
  obtain ⟨ta, pa, wa⟩ := ha.ex
  obtain ⟨tb, pb, wb⟩ := hb.ex
  refine ⟨_, ps_par hc hN hi hj hij hx hy (pa_cons pa (pa_cons pb pa_nil he2) he) hw hs, fun E M ρ S σ H D D' R q p => ?_⟩
  refine wa E M ρ S σ H _ _ R q fun M1 S1 H1 x v t1 s1 r1 q1 => ?_
  refine wb E M1 ρ S1 σ H1 _ _ (R.step t1 s1) q1 fun M2 S2 H2 y w t2 s2 r2 q2 => ?_
  exact ⟨v, w, rfl, p.nx M2 _ S2 _ H2 (t1.trans t2) (((R.step (t1.trans t2) s2).set i (r1.step s1 t2)).set j r2) q2⟩
end

/-! ### list comprehensions -/
def wipeP (ρ : PEnv) : List Nat → PEnv
  | [] => ρ
  | v :: vs => (wipeP ρ vs).set v none
def pLcL (chk : Store → Prop) (g : PTG) (tt : PTT) (te : PTE) (E : XW) (ρ0 : PEnv) (n : Nat) (Q : PQ) : List PV → Store → Prop
  | [], S => chk S ∧ Q (.lst n) S
  | x :: xs, S => chk S ∧ g E x ρ0 S fun ρ1 S1 => tt E ρ1 S1 fun b S2 =>
    Br b (te E ρ1 S2 fun y S3 => onO S3[n]? fun acc => acc.length < 16777216 ∧ pLcL chk g tt te E ρ0 n Q xs (S3.set n (acc ++ [y]))) (pLcL chk g tt te E ρ0 n Q xs S2)
def pLc (i : PTI) (g : PTG) (tt : PTT) (te : PTE) (ws : List Nat) : PTE := fun E ρ S Q => i E ρ S fun it S1 => pLcL it.chk g tt te E (wipeP ρ ws) S1.length Q it.items (S1 ++ [[]])
def pYes : PTT := fun _ _ S Q => Q true S
instance : MoT pYes := ⟨fun h q => h _ _ q⟩
theorem pLcL_mo {chk : Store → Prop} {g : PTG} {tt : PTT} {te : PTE} [MoG g] [MoT tt] [MoE te] {E : XW} {ρ0 : PEnv} {n : Nat} {Q Q' : PQ} (h : ∀ x S, Q x S → Q' x S) : ∀ {xs : List PV} {S : Store}, pLcL chk g tt te E ρ0 n Q xs S → pLcL chk g tt te E ρ0 n Q' xs S
  | [], S, q => ⟨q.1, h _ _ q.2⟩
  | x :: xs, S, q => by
    unfold pLcL at q ⊢
    refine ⟨q.1, MoG.mo (g := g) (fun _ _ q => MoT.mo (f := tt) (fun b _ q => ?_) q) q.2⟩
    cases b with
    | false =>
      exact pLcL_mo h q
    | true =>
      exact MoE.mo (f := te) (fun _ _ q => onO_mo (fun _ q => ⟨q.1, pLcL_mo h q.2⟩) q) q
instance {i : PTI} {g : PTG} {tt : PTT} {te : PTE} {ws : List Nat} [MoI i] [MoG g] [MoT tt] [MoE te] : MoE (pLc i g tt te ws) := ⟨fun h q => MoI.mo (f := i) (fun _ _ q => pLcL_mo h q) q⟩
section
variable {bk : BagKind} {K : PySem.W.Frag}
theorem wipe_get {α : Type} {i : Nat} {x : α} : ∀ {vs : List Nat} {σ : List (Option α)} {w : List Nat → List (Option α)}, (w = fun vs => vs.foldr (fun v r => r.set v none) σ) → (w vs)[i]? = some (some x) → σ[i]? = some (some x) ∧ i ∉ vs
  | [], σ, w, e, h => by subst e; exact ⟨h, by simp⟩
  | v :: vs, σ, w, e, h => by
    subst e
    simp only [List.foldr_cons] at h
    by_cases hi : v = i
    · subst hi
      by_cases hv : v < (vs.foldr (fun v r => r.set v none) σ).length
      · rw [List.getElem?_set_self hv] at h; cases h
      · rw [List.getElem?_eq_none (by simpa using hv)] at h; cases h
    · rw [List.getElem?_set_ne hi] at h
      obtain ⟨h1, h2⟩ := wipe_get (vs := vs) (σ := σ) rfl h
      exact ⟨h1, by simp only [List.mem_cons, not_or]; exact ⟨fun e => hi e.symm, h2⟩⟩
theorem wipeP_eq (ρ : PEnv) : ∀ vs, wipeP ρ vs = vs.foldr (fun v r => r.set v none) ρ
  | [] => rfl
  | v :: vs => by rw [wipeP, wipeP_eq ρ vs]; rfl
theorem wipeP_length (ρ : PEnv) : ∀ vs, (wipeP ρ vs).length = ρ.length
  | [] => rfl
  | v :: vs => by rw [wipeP, List.length_set, wipeP_length ρ vs]
theorem wipe_keep {σ : St} {i : Nat} : ∀ {vs : List Nat}, i ∉ vs → (wipe σ vs)[i]? = σ[i]?
  | [], _ => rfl
  | v :: vs, h => by
    simp only [List.mem_cons, not_or] at h
    rw [wipe, List.getElem?_set_ne (fun e => h.1 e.symm)]
    exact wipe_keep h.2
theorem Rel.wipe {M : Am} {ρ : PEnv} {S : Store} {σ : St} {H : Hp} (R : Rel K bk M ρ S σ H) (vs : List Nat) : Rel K bk M (wipeP ρ vs) S (L2.wipe σ vs) H := by
  refine ⟨by rw [wipeP_length, wipe_length, R.len], fun i x e => ?_, R.sto⟩
  rw [wipeP_eq] at e
  obtain ⟨h1, h2⟩ := wipe_get (w := fun vs => vs.foldr (fun v r => r.set v none) ρ) rfl e
  obtain ⟨v, e1, r⟩ := R.slots i x h1
  exact ⟨v, by rw [wipe_keep h2]; exact e1, r⟩
/-- a target that stores in the block's own slots alone -/
structure QGw (bk : BagKind) (X : Cx) (e : Expr) (g : PTG) (ws : List Nat) : Prop where
  ex : ∃ t, PG X e t ∧ ∀ (E : XW) M ρ S σ0 H x v (Q : PEnv → Store → Prop) (Q' : St → Hp → Prop), Rel X.K bk M ρ S (wipe σ0 ws) H → Rp X.K bk.root M H x v → g E x ρ S Q →
    (∀ M' ρ' S' σ' H', wipe σ' ws = wipe σ0 ws → Step M H M' H' → Rel X.K bk M' ρ' S' σ' H' → Q ρ' S' → Q' σ' H') → t v (wipe σ0 ws) H Q'
end
section
variable {bk : BagKind} {X : Cx}
theorem wipe_idem {σ : St} {v : Nat} {x : Option V} : ∀ {vs : List Nat}, v ∈ vs → wipe (σ.set v x) vs = wipe σ vs
  | w :: vs, h => by
    rw [wipe, wipe]
    by_cases hv : v ∈ vs
    · rw [wipe_idem hv]
    · have e : w = v := by
        rcases List.mem_cons.mp h with h | h
        · exact h.symm
        · exact absurd h hv
      subst e
      apply List.ext_getElem?
      intro j
      by_cases hj : w = j
      · subst hj
        have h1 : ∀ σ' : St, ((wipe σ' vs).set w none)[w]? = if w < σ'.length then some none else none := fun σ' => by
          by_cases hl : w < σ'.length
          · rw [List.getElem?_set_self (by rw [wipe_length]; exact hl), if_pos hl]
          · rw [if_neg hl, List.getElem?_eq_none (by rw [List.length_set, wipe_length]; omega)]
        rw [h1, h1, List.length_set]
      · rw [List.getElem?_set_ne hj, List.getElem?_set_ne hj]
        by_cases hjv : j ∈ vs
        · -- both are wiped there
          have h2 : ∀ σ' : St, ∀ us : List Nat, j ∈ us → (wipe σ' us)[j]? = if j < σ'.length then some none else none := fun σ' us => by
            induction us with
            | nil => intro h; simp at h
            | cons u us ih =>
              intro h
              rw [wipe]
              by_cases hu : u = j
              · subst hu
                by_cases hl : u < σ'.length
                · rw [List.getElem?_set_self (by rw [wipe_length]; exact hl), if_pos hl]
                · rw [if_neg hl, List.getElem?_eq_none (by rw [List.length_set, wipe_length]; omega)]
              · rw [List.getElem?_set_ne hu]
                exact ih (by rcases List.mem_cons.mp h with h | h; exact absurd h.symm hu; exact h)
          rw [h2 _ _ hjv, h2 _ _ hjv, List.length_set]
        · rw [wipe_keep hjv, wipe_keep hjv, List.getElem?_set_ne hj]
theorem wipe_wipe {σ : St} : ∀ {vs : List Nat}, wipe (wipe σ vs) vs = wipe σ vs := by
  intro vs
  have : ∀ us : List Nat, (∀ u ∈ us, u ∈ vs) → wipe (wipe σ us) vs = wipe σ vs := by
    intro us
    induction us with
    | nil => intro _; rfl
    | cons u us ih =>
      intro h
      show wipe ((wipe σ us).set u none) vs = _
      rw [wipe_idem (h u List.mem_cons_self)]
      exact ih fun w hw => h w (List.mem_cons_of_mem _ hw)
  exact this vs fun _ h => h
theorem gw_name {i : Nat} {x : Str} {pos : Pos} {ws : List Nat} (hm : i ∈ ws) (hN : X.N.Nodup) (hi : X.N[i]? = some x) (hx : Loc X.env.scope x) (hf : X.fn x = true ∨ X.env.scope.names.lookup x = some .local := by first | exact .inl rfl | exact .inr rfl | assumption) : QGw bk X (.Name x pos) (gN i) ws :=
  ⟨_, pg_name hN hi hx hf, fun E M ρ S σ0 H x v Q Q' R r q p => p M _ S _ H (by rw [wipe_idem hm, wipe_wipe]) (.refl M H) (R.set i r) q⟩
structure QGsw (bk : BagKind) (X : Cx) (es : List Expr) (g : PTGs) (ws : List Nat) : Prop where
  ex : ∃ t, PGs X es t ∧ ∀ (E : XW) M ρ S σ0 σ H x v (Q : PEnv → Store → Prop) (Q' : St → Hp → Prop), wipe σ ws = wipe σ0 ws → Rel X.K bk M ρ S σ H → Rps X.K bk.root M H x v → g E x ρ S Q →
    (∀ M' ρ' S' σ' H', wipe σ' ws = wipe σ0 ws → Step M H M' H' → Rel X.K bk M' ρ' S' σ' H' → Q ρ' S' → Q' σ' H') → t v σ H Q'
theorem gsw_nil {ws : List Nat} : QGsw bk X [] gsNil ws := by
  refine ⟨_, pgs_nil, fun E M ρ S σ0 σ H x v Q Q' hw R r q p => ?_⟩
  cases x with
  | nil => rw [Rps] at r; exact ⟨r, p M ρ S σ H hw (.refl M H) R q⟩
  | cons _ _ => exact q.elim
theorem gsw_cons {x : Str} {pos : Pos} {i : Nat} {es : List Expr} {u : PTGs} {ws : List Nat} (hm : i ∈ ws) (hN : X.N.Nodup) (hi : X.N[i]? = some x) (hx : Loc X.env.scope x) (h2 : QGsw bk X es u ws)
    (hf : X.fn x = true ∨ X.env.scope.names.lookup x = some .local := by first | exact .inl rfl | exact .inr rfl | assumption)
    (hs : (assignEach (.Name x pos :: es) X.env).map (·.2) = assign (.Name x pos) X.env :: (assignEach es X.env).map (·.2) := by rfl) : QGsw bk X (.Name x pos :: es) (gsCons (gN i) u) ws := by
  obtain ⟨tb, pb, wb⟩ := h2.ex
  refine ⟨_, pgs_cons (pg_name hN hi hx hf) pb hs, fun E M ρ S σ0 σ H x v Q Q' hw R r q p => ?_⟩
  cases x with
  | nil => exact q.elim
  | cons y ys =>
    rw [Rps] at r
    obtain ⟨w, vs, rfl, r1, r2⟩ := r
    exact ⟨w, vs, rfl, wb E M _ S σ0 _ H ys vs _ _ (by rw [wipe_idem hm]; exact hw) (R.set i r1) r2 q fun M' ρ' S' σ' H' hw' t' R' q' => p M' ρ' S' σ' H' hw' t' R' q'⟩
theorem gw_tup {es : List Expr} {k : Nat} {t : PTGs} {n : Nat} {pos : Pos} {ws : List Nat} (hc : X.calm = true) (h : QGsw bk X es t ws)
    (hn : (assignEach es X.env).length = n := by rfl) (hst : (assignEach es X.env).findIdx? (·.1) = none := by rfl) : QGw bk X (.Tuple es k pos) (gT n t) ws := by
  obtain ⟨ta, pa, wa⟩ := h.ex
  refine ⟨_, pg_tup hc pa hn hst, fun E M ρ S σ0 H x v Q Q' R r q p => ?_⟩
  cases x <;> first | exact q.elim | skip
  rename_i xs
  obtain ⟨a, vs, e, s, r⟩ := rp_tup r
  exact ⟨a, vs, e, s, r.length.trans q.1, wa E M ρ S σ0 _ H xs vs _ _ wipe_wipe R r q.2 p⟩
structure QTs (bk : BagKind) (X : Cx) (ifs : List Expr) (f : PTT) : Prop where
  ex : ∃ t, PTs X ifs t ∧ ∀ (E : XW) M ρ S σ H Q Q', Rel X.K bk M ρ S σ H → f E ρ S Q → PostT bk X.K M H Q Q' → t σ H Q'
theorem qts_nil : QTs bk X [] pYes := ⟨_, pts_nil, fun E M ρ S σ H Q Q' R q p => p M S H _ (.refl M H) R.sto q⟩
theorem qts_one {c : Expr} {f : PTT} (h : QT bk X c f) : QTs bk X [c] f := by
  obtain ⟨t, p, w⟩ := h.ex
  exact ⟨t, pts_one p, w⟩
/-- the reading of a comprehension follows its plain semantics -/
theorem lc_sound {wi : TI} {g : TG} {tt : TT} {te : TE} {ws : List Nat} {i : PTI} {pg : PTG} {pt : PTT} {pe : PTE}
    (hi : ∀ (E : XW) M ρ S σ H R R', Rel X.K bk M ρ S σ H → i E ρ S R → (∀ M' S' H' it J, Step M H M' H' → Sto X.K bk M' S' H' → ItOk bk X.K it J M' H' → R it S' → R' J H') → wi σ H R')
    (hg : ∀ (E : XW) M ρ S σ0 H x v (Q : PEnv → Store → Prop) (Q' : St → Hp → Prop), Rel X.K bk M ρ S (wipe σ0 ws) H → Rp X.K bk.root M H x v → pg E x ρ S Q →
      (∀ M' ρ' S' σ' H', wipe σ' ws = wipe σ0 ws → Step M H M' H' → Rel X.K bk M' ρ' S' σ' H' → Q ρ' S' → Q' σ' H') → g v (wipe σ0 ws) H Q')
    (ht : ∀ (E : XW) M ρ S σ H Q Q', Rel X.K bk M ρ S σ H → pt E ρ S Q → PostT bk X.K M H Q Q' → tt σ H Q')
    (he : ∀ (E : XW) M ρ S σ H Q Q', Rel X.K bk M ρ S σ H → pe E ρ S Q → Post bk X.K M H Q Q' → te σ H Q')
    (E : XW) (M : Am) (ρ : PEnv) (S : Store) (σ : St) (H : Hp) (Q : PQ) (Q' : VK) (R : Rel X.K bk M ρ S σ H) (q : pLc i pg pt pe ws E ρ S Q) (p : Post bk X.K M H Q Q') : tLc wi g tt te ws σ H Q' := by
  refine hi E M ρ S σ H _ _ R q fun M1 S1 H1 it J t1 s1 ok q1 => ?_
  intro D hD
  have s2 : Sto X.K bk (M1.add D) (S1 ++ [[]]) (upd H1 D (.lst [])) := s1.push hD .nil
  have t2 : Step M1 H1 (M1.add D) (upd H1 D (.lst [])) := Step.push hD
  have eD : ∀ {M3 : Am} {H3 : Hp}, Step (M1.add D) (upd H1 D (.lst [])) M3 H3 → LsAt M3 S1.length D := fun {M3 H3} t => LsAt.at s1.new_at t
  refine ⟨fun k j H2 => j = it.items.length - k ∧ k ≤ it.items.length ∧ ∃ M2 S2, Step (M1.add D) (upd H1 D (.lst [])) M2 H2 ∧ Sto X.K bk M2 S2 H2 ∧ pLcL it.chk pg pt pe E (wipeP ρ ws) S1.length Q (it.items.drop k) S2,
    ⟨_, rfl, Nat.zero_le _, _, _, .refl _ _, s2, q1⟩, ?_⟩
  rintro k j H2 ⟨rfl, hk, M2, S2, t3, s3, q2⟩
  have t13 := t1.trans (t2.trans t3)
  by_cases hlt : k < it.items.length
  · rw [List.drop_eq_getElem_cons hlt] at q2
    unfold pLcL at q2
    obtain ⟨hck, q2⟩ := q2
    obtain ⟨hgo, hy⟩ := (ok M2 S2 H2 k (t2.trans t3) s3 hck).1 it.items[k] (by simp [hlt])
    refine .inr ⟨hgo, fun H' => ∃ M3 S3, Step (M1.add D) (upd H1 D (.lst [])) M3 H' ∧ Sto X.K bk M3 S3 H' ∧ pLcL it.chk pg pt pe E (wipeP ρ ws) S1.length Q (it.items.drop (k + 1)) S3, fun H' z => ⟨_, by omega, rfl, hlt, z⟩, fun v H3 y => ?_⟩
    obtain ⟨t4, s4, r4⟩ := hy v H3 y
    refine hg E M2 _ S2 σ H3 _ v _ _ ((R.step (t13.trans t4) s4).wipe ws) r4 q2 fun M5 ρ5 S5 σ5 H5 hw t5 R5 q5 => ⟨hw, ?_⟩
    refine ht E M5 ρ5 S5 σ5 H5 _ _ R5 q5 fun M6 S6 H6 b t6 s6 q6 => ?_
    have t36 := t3.trans (t4.trans (t5.trans t6))
    cases b with
    | false =>
      rw [if_neg Bool.false_ne_true]
      exact ⟨M6, S6, t36, s6, q6⟩
    | true =>
      rw [if_pos rfl]
      refine he E M6 ρ5 S6 σ5 H6 _ _ (R5.step t6 s6) q6 fun M7 S7 H7 y7 v7 t7 s7 r7 q7 => ?_
      obtain ⟨acc, ea, hl, q7⟩ := onO_ex q7
      have t37 := t36.trans t7
      have eq := eD t37
      obtain ⟨vs, e2, e3⟩ := s7.lst eq ea
      refine ⟨vs, e2, by rw [e3.length, szl]; exact hl, ?_⟩
      obtain ⟨t8, s8⟩ := s7.write eq (e3.append (.cons r7 .nil))
      exact ⟨M7, _, t37.trans t8, s8, q7⟩
  · have e : k = it.items.length := by omega
    subst e
    rw [List.drop_length] at q2
    obtain ⟨hck, q2⟩ := q2
    exact .inl ⟨(ok M2 S2 H2 _ (t2.trans t3) s3 hck).2 (by simp), p M2 S2 H2 _ _ t13 s3 (to_lst (eD t3)) q2⟩
/-- the one reading that a plain semantics stands for -/
def tE (bk : BagKind) (K : PySem.W.Frag) (f : PTE) : TE := fun σ H Q' => ∃ (E : XW) (M : Am) (ρ : PEnv) (S : Store) (Q : PQ), Rel K bk M ρ S σ H ∧ f E ρ S Q ∧ Post bk K M H Q Q'
def tT (bk : BagKind) (K : PySem.W.Frag) (f : PTT) : TT := fun σ H Q' => ∃ (E : XW) (M : Am) (ρ : PEnv) (S : Store) (Q : Bool → Store → Prop), Rel K bk M ρ S σ H ∧ f E ρ S Q ∧ PostT bk K M H Q Q'
def tGw (bk : BagKind) (K : PySem.W.Frag) (ws : List Nat) (g : PTG) : TG := fun v σ H Q' => ∃ (E : XW) (M : Am) (ρ : PEnv) (S : Store) (σ0 : St) (x : PV) (Q : PEnv → Store → Prop), σ = wipe σ0 ws ∧ Rel K bk M ρ S σ H ∧ Rp K bk.root M H x v ∧ g E x ρ S Q ∧
  ∀ M' ρ' S' σ' H', wipe σ' ws = wipe σ0 ws → Step M H M' H' → Rel K bk M' ρ' S' σ' H' → Q ρ' S' → Q' σ' H'
theorem QE.canon {e : Expr} {f : PTE} (h : QE bk X e f) : PE X e (tE bk X.K f) := by
  obtain ⟨t, p, w⟩ := h.ex
  exact ⟨fun pins s σ H Q I ⟨E, M, ρ, S, Q0, R, q, k⟩ => p.run pins s σ H Q I (w E M ρ S σ H Q0 Q R q k)⟩
theorem QTs.canon {ifs : List Expr} {f : PTT} (h : QTs bk X ifs f) : PTs X ifs (tT bk X.K f) := by
  obtain ⟨t, p, w⟩ := h.ex
  exact ⟨fun pins s σ H Q I ⟨E, M, ρ, S, Q0, R, q, k⟩ => p.run pins s σ H Q I (w E M ρ S σ H Q0 Q R q k)⟩
theorem QGw.canon {e : Expr} {g : PTG} {ws : List Nat} (h : QGw bk X e g ws) : PG X e (tGw bk X.K ws g) := by
  obtain ⟨t, p, w⟩ := h.ex
  refine ⟨fun pins s σ H v u Q I r hq => ?_⟩
  obtain ⟨E, M, ρ, S, σ0, x, Q0, rfl, R, rx, q, k⟩ := hq
  exact p.run pins s _ H v u Q I r (w E M ρ S σ0 H x v Q0 Q R rx q k)
theorem q_lc {elt tg iter : Expr} {ifs : List Expr} {scope : Scope} {own : List (Str × Nat)} {pos : Pos} {i : PTI} {pg : PTG} {pt : PTT} {pe : PTE} {ws : List Nat} (hc : X.calm = true) (hN : X.N.Nodup) (hi : QI bk X tg iter i) (ok : BlkOk X.N X.env.scope scope own) (hws : own.map (·.2) = ws)
    (hg : ∀ (s : Shared) (H : Hp) (C : Addr) (cl : List (Str × Addr)) (fp : List Addr), QGw bk (X.blk s H scope (compEnvC scope cl C X.env) fp) tg pg ws)
    (ht : ∀ (s : Shared) (H : Hp) (C : Addr) (cl : List (Str × Addr)) (fp : List Addr), QTs bk (X.blk s H scope (compEnvC scope cl C X.env) fp) ifs pt)
    (he : ∀ (s : Shared) (H : Hp) (C : Addr) (cl : List (Str × Addr)) (fp : List Addr), QE bk (X.blk s H scope (compEnvC scope cl C X.env) fp) elt pe)
    (hs : ∀ x, foldedSetIterable iter X.env x = pure x := by intro _; rfl) : QE bk X (.ListComp elt [⟨tg, iter, ifs, 0⟩] scope pos) (pLc i pg pt pe ws) := by
  obtain ⟨ti, pi, wi⟩ := hi.ex
  subst hws
  refine ⟨_, pe_lc (g := tGw bk X.K (own.map (·.2)) pg) (tt := tT bk X.K pt) (te := tE bk X.K pe) hc hN pi ok (fun s H C cl fp => (hg s H C cl fp).canon) (fun s H C cl fp => (ht s H C cl fp).canon) (fun s H C cl fp => (he s H C cl fp).canon) hs, fun E M ρ S σ H Q Q' R q p => ?_⟩
  exact lc_sound wi (fun E M ρ S σ0 H x v Q Q' R r q k => ⟨E, M, ρ, S, σ0, x, Q, rfl, R, r, q, k⟩) (fun E M ρ S σ H Q Q' R q k => ⟨E, M, ρ, S, Q, R, q, k⟩) (fun E M ρ S σ H Q Q' R q k => ⟨E, M, ρ, S, Q, R, q, k⟩) E M ρ S σ H Q Q' R q p
/-- name = [..] on one line -/
theorem q_setLc {j : Nat} {y : Str} {py : Pos} {elt tg iter : Expr} {ifs : List Expr} {scope : Scope} {own : List (Str × Nat)} {pos spos : Pos} {i : PTI} {pg : PTG} {pt : PTT} {pe : PTE} {ws : List Nat} (hc : X.calm = true) (hN : X.N.Nodup) (hy : X.N[j]? = some y) (hyl : X.env.scope.names.lookup y = some .local)
    (hsw : swapsWith (.ListComp elt [⟨tg, iter, ifs, 0⟩] scope pos) (some (.Name y py)) spos.line X.env = pure true) (hi : QI bk X tg iter i) (ok : BlkOk X.N X.env.scope scope own) (hws : own.map (·.2) = ws)
    (hg : ∀ (s : Shared) (H : Hp) (C : Addr) (cl : List (Str × Addr)) (fp : List Addr), QGw bk (X.blk s H scope (compEnvC scope cl C X.env) fp) tg pg ws)
    (ht : ∀ (s : Shared) (H : Hp) (C : Addr) (cl : List (Str × Addr)) (fp : List Addr), QTs bk (X.blk s H scope (compEnvC scope cl C X.env) fp) ifs pt)
    (he : ∀ (s : Shared) (H : Hp) (C : Addr) (cl : List (Str × Addr)) (fp : List Addr), QE bk (X.blk s H scope (compEnvC scope cl C X.env) fp) elt pe)
    (hs : ∀ x, foldedSetIterable iter X.env x = pure x := by intro _; rfl) : QS bk X (.Assign [.Name y py] (.ListComp elt [⟨tg, iter, ifs, 0⟩] scope pos) spos) (pSet j (pLc i pg pt pe ws)) := by
  obtain ⟨ti, pi, wi⟩ := hi.ex
  subst hws
  refine ⟨_, ps_setLc (g := tGw bk X.K (own.map (·.2)) pg) (tt := tT bk X.K pt) (te := tE bk X.K pe) hc hN hy hyl hsw pi ok (fun s H C cl fp => (hg s H C cl fp).canon) (fun s H C cl fp => (ht s H C cl fp).canon) (fun s H C cl fp => (he s H C cl fp).canon) hs, fun E M ρ S σ H D D' R q p => ?_⟩
  exact lc_sound wi (fun E M ρ S σ0 H x v Q Q' R r q k => ⟨E, M, ρ, S, σ0, x, Q, rfl, R, r, q, k⟩) (fun E M ρ S σ H Q Q' R q k => ⟨E, M, ρ, S, Q, R, q, k⟩) (fun E M ρ S σ H Q Q' R q k => ⟨E, M, ρ, S, Q, R, q, k⟩) E M ρ S σ H _ _ R q fun M1 S1 H1 x v t1 s1 r1 q1 => p.nx M1 _ S1 _ H1 t1 ((R.step t1 s1).set j r1) q1
end
end L2.P3
namespace L2.P3
open PySem PySem.Spec PyProof.Rows

theorem ClP.or {bk : BagKind} {K : PySem.W.Frag} {r r' : List V → Hp → VK → Prop} {o o' : PCl} (h : ClP bk K r o) (h' : ClP bk K r' o') : ClP bk K (fun x H Q => r x H Q ∨ r' x H Q) (fun x S Q => o x S Q ∨ o' x S Q) := fun M S H x v Q Q' s r1 q p => by
  rcases q with q | q
  · exact .inl (h M S H x v Q Q' s r1 q p)
  · exact .inr (h' M S H x v Q Q' s r1 q p)
theorem CallR.or {X : Cx} {f : Value} {r r' : List V → Hp → VK → Prop} (h : CallR X f r) (h' : CallR X f r') : CallR X f (fun x H Q => r x H Q ∨ r' x H Q) := by
  intro pins s σ H xs us Q I rv q
  rcases q with q | q
  · exact h pins s σ H xs us Q I rv q
  · exact h' pins s σ H xs us Q I rv q

section
variable {bk : BagKind} {K : PySem.W.Frag} {M : Am} {H : Hp} {r : Nat} {S : Store}
theorem rps1 {x : PV} {vs : List V} (h : Rps K r M H [x] vs) : ∃ v, vs = [v] ∧ Rp K r M H x v := by
  rw [Rps] at h
  obtain ⟨v, ws, rfl, h1, h2⟩ := h
  rw [Rps] at h2; subst h2
  exact ⟨v, rfl, h1⟩
theorem rps2 {x y : PV} {vs : List V} (h : Rps K r M H [x, y] vs) : ∃ v w, vs = [v, w] ∧ Rp K r M H x v ∧ Rp K r M H y w := by
  rw [Rps] at h
  obtain ⟨v, ws, rfl, h1, h2⟩ := h
  obtain ⟨w, rfl, h3⟩ := rps1 h2
  exact ⟨v, w, rfl, h1, h3⟩
theorem rps_ints {ns : List Int} : ∀ {vs : List V}, Rps K r M H (ns.map PV.int) vs → vs = ns.map V.int := by
  induction ns with
  | nil => intro vs h; simpa [Rps] using h
  | cons n ns ih =>
    intro vs h
    rw [List.map_cons, Rps] at h
    obtain ⟨v, ws, rfl, h1, h2⟩ := h
    rw [rp_int h1, ih h2]; rfl
end

/-! ### built-ins -/
def oLen : PCl := fun xs S Q => match xs with
  | [.tup ys] => Q (.int ys.length) S
  | [.lst n] => onO S[n]? fun ys => Q (.int ys.length) S
  | [.rol ys] => Q (.int ys.length) S
  | [.str z] => z.length ≤ 16777216 ∧ Q (.int z.length) S
  | _ => False
instance : MoC oLen := ⟨fun h q => by
  unfold oLen at q ⊢
  split at q <;> first | exact h _ _ q | exact ⟨q.1, h _ _ q.2⟩ | exact q.elim | exact onO_mo (fun _ q => h _ _ q) q | exact onO_mo (fun _ q => onO_mo (fun _ q => h _ _ q) q) q⟩
def oAbs : PCl := fun xs S Q => match xs with | [.int i] => Q (.int (i.natAbs : Int)) S | _ => False
instance : MoC oAbs := ⟨fun h q => by unfold oAbs at q ⊢; split at q <;> first | exact h _ _ q | exact q.elim⟩
def oInt : PCl := fun xs S Q => match xs with | [.int i] => Q (.int i) S | [.bl b] => Q (.int (if b then 1 else 0)) S | _ => False
instance : MoC oInt := ⟨fun h q => by unfold oInt at q ⊢; split at q <;> first | exact h _ _ q | exact q.elim⟩
def oMax2 : PCl := fun xs S Q => match xs with | [.int i, .int j] => Q (.int (max i j)) S | _ => False
instance : MoC oMax2 := ⟨fun h q => by unfold oMax2 at q ⊢; split at q <;> first | exact h _ _ q | exact q.elim⟩
def oMin2 : PCl := fun xs S Q => match xs with | [.int i, .int j] => Q (.int (min i j)) S | _ => False
instance : MoC oMin2 := ⟨fun h q => by unfold oMin2 at q ⊢; split at q <;> first | exact h _ _ q | exact q.elim⟩
def oTuple : PCl := fun xs S Q => match xs with
  | [.tup ys] => Q (.tup ys) S
  | [.lst n] => onO S[n]? fun ys => Q (.tup ys) S
  | [.rol ys] => Q (.tup ys) S
  | _ => False
instance : MoC oTuple := ⟨fun h q => by
  unfold oTuple at q ⊢
  split at q <;> first | exact h _ _ q | exact q.elim | exact onO_mo (fun _ q => h _ _ q) q | exact onO_mo (fun _ q => onO_mo (fun _ q => h _ _ q) q) q⟩
def oList : PCl := fun xs S Q => match xs with
  | [.tup ys] => Q (.lst S.length) (S ++ [ys])
  | [.lst n] => onO S[n]? fun ys => Q (.lst S.length) (S ++ [ys])
  | [.rol ys] => Q (.lst S.length) (S ++ [ys])
  | _ => False
instance : MoC oList := ⟨fun h q => by
  unfold oList at q ⊢
  split at q <;> first | exact h _ _ q | exact q.elim | exact onO_mo (fun _ q => h _ _ q) q | exact onO_mo (fun _ q => onO_mo (fun _ q => h _ _ q) q) q⟩
def asInts : List PV → Option (List Int)
  | [] => some []
  | .int i :: xs => (asInts xs).map fun ns => i :: ns
  | _ => none
theorem asInts_map : ∀ ns : List Int, asInts (ns.map PV.int) = some ns
  | [] => rfl
  | n :: ns => by simp [asInts, asInts_map ns]
theorem asInts_eq : ∀ {xs : List PV} {ns : List Int}, asInts xs = some ns → xs = ns.map PV.int
  | [], ns, h => by simp [asInts] at h; subst h; rfl
  | x :: xs, ns, h => by
    cases x <;> simp [asInts] at h
    obtain ⟨m, e, rfl⟩ := h
    rw [asInts_eq e]; rfl
def oSum : PCl := fun xs S Q => match xs with
  | [.lst n] => onO S[n]? fun ys => onO (asInts ys) fun ns => Q (.int ns.sum) S
  | _ => False
instance : MoC oSum := ⟨fun h q => by unfold oSum at q ⊢; split at q <;> first | exact q.elim | exact onO_mo (fun _ q => h _ _ q) q | exact onO_mo (fun _ q => onO_mo (fun _ q => h _ _ q) q) q⟩
def oGcd : PCl := fun xs S Q => match xs with | [.int i, .int j] => Q (.int (Int.gcd i j : Nat)) S | _ => False
instance : MoC oGcd := ⟨fun h q => by unfold oGcd at q ⊢; split at q <;> first | exact h _ _ q | exact q.elim⟩
def oDivmod : PCl := fun xs S Q => match xs with | [.int i, .int j] => DivOk j ∧ Q (.tup [.int (i.fdiv j), .int (i.fmod j)]) S | _ => False
instance : MoC oDivmod := ⟨fun h q => by unfold oDivmod at q ⊢; split at q <;> first | exact ⟨q.1, h _ _ q.2⟩ | exact q.elim⟩
section
variable {bk : BagKind} {K : PySem.W.Frag} {X : Cx}
theorem oLenP : ClP bk K (fun xs H Q => ∃ x n, xs = [x] ∧ LenV K x H n ∧ Q (.int n) H) oLen := fun M S H x v Q Q' s r q p => by
  unfold oLen at q
  split at q
  · obtain ⟨v, rfl, z⟩ := rps1 r
    obtain ⟨a, vs, rfl, h1, sv⟩ := rp_tup z
    exact ⟨_, _, rfl, .inr ⟨vs, h1, rfl⟩, p M S H _ _ (.refl M H) s (by rw [sv.length]; exact to_int) q⟩
  · obtain ⟨v, rfl, z⟩ := rps1 r
    obtain ⟨ys, e, q⟩ := onO_ex q
    obtain ⟨a, ea, rfl⟩ := rp_lst z
    obtain ⟨vs, h1, sv⟩ := s.lst ea e
    exact ⟨_, _, rfl, .inl ⟨vs, SqL.of h1, rfl⟩, p M S H _ _ (.refl M H) s (by rw [sv.length]; exact to_int) q⟩
  · obtain ⟨v, rfl, z⟩ := rps1 r
    obtain ⟨a, vs, rfl, h1, sv⟩ := rp_rol z
    exact ⟨_, _, rfl, .inl ⟨vs, h1.sq, rfl⟩, p M S H _ _ (.refl M H) s (by rw [sv.length]; exact to_int) q⟩
  · obtain ⟨v, rfl, z⟩ := rps1 r
    rw [rp_str z]
    exact ⟨_, _, rfl, ⟨by rw [szl]; exact q.1, rfl⟩, p M S H _ _ (.refl M H) s to_int q.2⟩
  · exact q.elim
theorem oAbsP : ClP bk K (fun xs H Q => ∃ i, xs = [.int i] ∧ Q (.int (if i < 0 then -i else i)) H) oAbs := fun M S H x v Q Q' s r q p => by
  unfold oAbs at q
  split at q
  · rename_i i
    obtain ⟨v, rfl, z⟩ := rps1 r
    rw [rp_int z]
    have e : (if i < 0 then -i else i) = (i.natAbs : Int) := by split <;> omega
    exact ⟨i, rfl, p M S H _ _ (.refl M H) s (by rw [e]; exact to_int) q⟩
  · exact q.elim
theorem oIntP : ClP bk K (fun xs H Q => (∃ i, xs = [.int i] ∧ Q (.int i) H) ∨ ∃ k, xs = [.bl k] ∧ Q (.int (if k then 1 else 0)) H) oInt := fun M S H x v Q Q' s r q p => by
  unfold oInt at q
  split at q
  · obtain ⟨v, rfl, z⟩ := rps1 r
    rw [rp_int z]
    exact .inl ⟨_, rfl, p M S H _ _ (.refl M H) s to_int q⟩
  · obtain ⟨v, rfl, z⟩ := rps1 r
    rw [rp_bl z]
    exact .inr ⟨_, rfl, p M S H _ _ (.refl M H) s to_int q⟩
  · exact q.elim
theorem oMax2P : ClP bk K (fun xs H Q => ∃ i j, xs = [.int i, .int j] ∧ Q (.int (if j > i then j else i)) H) oMax2 := fun M S H x v Q Q' s r q p => by
  unfold oMax2 at q
  split at q
  · rename_i i j
    obtain ⟨v, w, rfl, r1, r2⟩ := rps2 r
    rw [rp_int r1, rp_int r2]
    have e : (if j > i then j else i) = max i j := by split <;> omega
    exact ⟨i, j, rfl, p M S H _ _ (.refl M H) s (by rw [e]; exact to_int) q⟩
  · exact q.elim
theorem oMin2P : ClP bk K (fun xs H Q => ∃ i j, xs = [.int i, .int j] ∧ Q (.int (if j < i then j else i)) H) oMin2 := fun M S H x v Q Q' s r q p => by
  unfold oMin2 at q
  split at q
  · rename_i i j
    obtain ⟨v, w, rfl, r1, r2⟩ := rps2 r
    rw [rp_int r1, rp_int r2]
    have e : (if j < i then j else i) = min i j := by split <;> omega
    exact ⟨i, j, rfl, p M S H _ _ (.refl M H) s (by rw [e]; exact to_int) q⟩
  · exact q.elim
theorem oTupleP : ClP bk K (fun xs H Q => ∃ p ys, xs = [.ref p] ∧ ((SqL K H p ys ∧ ∀ l, H l = none → Q (.ref l) (upd H l (.tup ys))) ∨ (SqT K H p ys ∧ Q (.ref p) H))) oTuple := fun M S H x v Q Q' s r q p => by
  unfold oTuple at q
  split at q
  · obtain ⟨v, rfl, z⟩ := rps1 r
    obtain ⟨a, vs, rfl, h1, sv⟩ := rp_tup z
    exact ⟨a, vs, rfl, .inr ⟨h1, p M S H _ _ (.refl M H) s (to_tup h1 sv) q⟩⟩
  · obtain ⟨v, rfl, z⟩ := rps1 r
    obtain ⟨ys, e, q⟩ := onO_ex q
    obtain ⟨a, ea, rfl⟩ := rp_lst z
    obtain ⟨vs, h1, sv⟩ := s.lst ea e
    exact ⟨a, vs, rfl, .inl ⟨SqL.of h1, p.tup s sv q⟩⟩
  · obtain ⟨v, rfl, z⟩ := rps1 r
    obtain ⟨a, vs, rfl, h1, sv⟩ := rp_rol z
    exact ⟨a, vs, rfl, .inl ⟨h1.sq, p.tup s sv q⟩⟩
  · exact q.elim
theorem oListP : ClP bk K (fun xs H Q => ∃ p ys, xs = [.ref p] ∧ (SqL K H p ys ∨ SqT K H p ys) ∧ ∀ l, H l = none → Q (.ref l) (upd H l (.lst ys))) oList := fun M S H x v Q Q' s r q p => by
  unfold oList at q
  split at q
  · obtain ⟨v, rfl, z⟩ := rps1 r
    obtain ⟨a, vs, rfl, h1, sv⟩ := rp_tup z
    exact ⟨a, vs, rfl, .inr h1, p.lst s sv q⟩
  · obtain ⟨v, rfl, z⟩ := rps1 r
    obtain ⟨ys, e, q⟩ := onO_ex q
    obtain ⟨a, ea, rfl⟩ := rp_lst z
    obtain ⟨vs, h1, sv⟩ := s.lst ea e
    exact ⟨a, vs, rfl, .inl (SqL.of h1), p.lst s sv q⟩
  · obtain ⟨v, rfl, z⟩ := rps1 r
    obtain ⟨a, vs, rfl, h1, sv⟩ := rp_rol z
    exact ⟨a, vs, rfl, .inl h1.sq, p.lst s sv q⟩
  · exact q.elim
theorem oSumP : ClP bk K (rSum K) oSum := fun M S H x v Q Q' s r q p => by
  unfold oSum at q
  split at q
  · obtain ⟨v, rfl, z⟩ := rps1 r
    obtain ⟨ys, e, q⟩ := onO_ex q
    obtain ⟨ns, e0, q⟩ := onO_ex q
    rw [asInts_eq e0] at e
    obtain ⟨a, ea, rfl⟩ := rp_lst z
    obtain ⟨vs, h1, sv⟩ := s.lst ea e
    rw [rps_ints sv] at h1
    exact ⟨a, ns, rfl, SqL.of h1, p M S H _ _ (.refl M H) s to_int q⟩
  · exact q.elim
theorem oGcdP : ClP bk K rGcd oGcd := fun M S H x v Q Q' s r q p => by
  unfold oGcd at q
  split at q
  · obtain ⟨v, w, rfl, r1, r2⟩ := rps2 r
    rw [rp_int r1, rp_int r2]
    exact ⟨_, _, rfl, p M S H _ _ (.refl M H) s to_int q⟩
  · exact q.elim
theorem call_divmodX : CallR X (.builtin "divmod") (fun xs H Q => ∃ i j, xs = [.int i, .int j] ∧ DivOk j ∧ ∀ p, H p = none → Q (.ref p) (upd H p (.tup [.int (i.fdiv j), .int (i.fmod j)]))) := by
  intro pins s σ H xs us Q I r h
  obtain ⟨i, j, rfl, ⟨h1, h2⟩, q⟩ := h
  obtain ⟨u, w', rfl, ⟨t, rfl⟩, ⟨t', rfl⟩⟩ := vals2 r
  refine divmod_int h1 ?_ (.inl (PyProof.noPylong_of_log2 h2))
  have hn : H s.heap.objs.size = none := I.hok.fresh (Nat.le_refl _)
  refine ⟨.ref s.heap.objs.size, _, ?_, rfl, q _ hn⟩
  refine I.laid (fun b o e => Heap.get?_push_of_some _ e) (Nat.le_refl _) ⟨by simp only [List.length_cons, List.length_nil]; rw [sizeLine_eq]; decide, [.int (i.fdiv j) s.toks, .int (i.fmod j) (s.toks + 1)], .cons ⟨_, rfl⟩ (.cons ⟨_, rfl⟩ .nil), ?_⟩
  exact ⟨_, Heap.get?_push_size s.heap rfl, rfl, 0, rfl⟩
theorem oDivmodP : ClP bk K (fun xs H Q => ∃ i j, xs = [.int i, .int j] ∧ DivOk j ∧ ∀ p, H p = none → Q (.ref p) (upd H p (.tup [.int (i.fdiv j), .int (i.fmod j)]))) oDivmod := fun M S H x v Q Q' s r q p => by
  unfold oDivmod at q
  split at q
  · obtain ⟨v, w, rfl, r1, r2⟩ := rps2 r
    rw [rp_int r1, rp_int r2]
    exact ⟨_, _, rfl, q.1, p.tup s (.cons to_int (.cons to_int .nil)) q.2⟩
  · exact q.elim

/-! ### isinstance against a built-in class -/
inductive Ty1 where | int | bool | str | tuple | list
def Ty1.name : Ty1 → String
  | .int => "int" | .bool => "bool" | .str => "str" | .tuple => "tuple" | .list => "list"
def isT : Ty1 → PV → Bool
  | .int, .int _ => true
  | .int, .bl _ => true
  | .bool, .bl _ => true
  | .str, .str _ => true
  | .tuple, .tup _ => true
  | .list, .lst _ => true
  | .list, .rol _ => true
  | .list, .bag => true
  | _, _ => false
def tyN : PV → String
  | .non => "NoneType"
  | .bl _ => "bool"
  | .int _ => "int"
  | .str _ => "str"
  | .tup _ => "tuple"
  | .lst _ => "list"
  | .rol _ => "list"
  | .bag => "list"
  | .dic _ => "dict"
  | .obj _ => "object"
def pIsi (T : Ty1) (f : PTE) : PTE := fun E ρ S Q => f E ρ S fun x S1 => match x with
  | .obj _ => False
  | x => Q (.bl (isT T x)) S1
instance {T : Ty1} {f : PTE} [MoE f] : MoE (pIsi T f) := ⟨fun h q => MoE.mo (f := f) (fun x _ q => by cases x <;> first | exact h _ _ q | exact q.elim) q⟩
structure IsiT (T : Ty1) : Prop where
  h : ∀ x : PV, (∀ n, x ≠ .obj n) → kitB (tyN x) T.name = some (isT T x)
theorem kit_int : kitB "NoneType" "int" = some false ∧ kitB "bool" "int" = some true ∧ kitB "int" "int" = some true ∧ kitB "str" "int" = some false ∧ kitB "tuple" "int" = some false ∧ kitB "list" "int" = some false ∧ kitB "dict" "int" = some false := by decide +kernel
theorem kit_bool : kitB "NoneType" "bool" = some false ∧ kitB "bool" "bool" = some true ∧ kitB "int" "bool" = some false ∧ kitB "str" "bool" = some false ∧ kitB "tuple" "bool" = some false ∧ kitB "list" "bool" = some false ∧ kitB "dict" "bool" = some false := by decide +kernel
theorem kit_str : kitB "NoneType" "str" = some false ∧ kitB "bool" "str" = some false ∧ kitB "int" "str" = some false ∧ kitB "str" "str" = some true ∧ kitB "tuple" "str" = some false ∧ kitB "list" "str" = some false ∧ kitB "dict" "str" = some false := by decide +kernel
theorem kit_tuple : kitB "NoneType" "tuple" = some false ∧ kitB "bool" "tuple" = some false ∧ kitB "int" "tuple" = some false ∧ kitB "str" "tuple" = some false ∧ kitB "tuple" "tuple" = some true ∧ kitB "list" "tuple" = some false ∧ kitB "dict" "tuple" = some false := by decide +kernel
theorem kit_list : kitB "NoneType" "list" = some false ∧ kitB "bool" "list" = some false ∧ kitB "int" "list" = some false ∧ kitB "str" "list" = some false ∧ kitB "tuple" "list" = some false ∧ kitB "list" "list" = some true ∧ kitB "dict" "list" = some false := by decide +kernel
theorem isi_int : IsiT .int := ⟨fun x hx => by obtain ⟨a, b, c, d, e, f, g⟩ := kit_int; cases x <;> first | exact a | exact b | exact c | exact d | exact e | exact f | exact g | exact absurd rfl (hx _)⟩
theorem isi_bool : IsiT .bool := ⟨fun x hx => by obtain ⟨a, b, c, d, e, f, g⟩ := kit_bool; cases x <;> first | exact a | exact b | exact c | exact d | exact e | exact f | exact g | exact absurd rfl (hx _)⟩
theorem isi_str : IsiT .str := ⟨fun x hx => by obtain ⟨a, b, c, d, e, f, g⟩ := kit_str; cases x <;> first | exact a | exact b | exact c | exact d | exact e | exact f | exact g | exact absurd rfl (hx _)⟩
theorem isi_tuple : IsiT .tuple := ⟨fun x hx => by obtain ⟨a, b, c, d, e, f, g⟩ := kit_tuple; cases x <;> first | exact a | exact b | exact c | exact d | exact e | exact f | exact g | exact absurd rfl (hx _)⟩
theorem isi_list : IsiT .list := ⟨fun x hx => by obtain ⟨a, b, c, d, e, f, g⟩ := kit_list; cases x <;> first | exact a | exact b | exact c | exact d | exact e | exact f | exact g | exact absurd rfl (hx _)⟩
theorem tyx_of {M : Am} {S : Store} {H : Hp} {x : PV} {v : V} (s : Sto K bk M S H) (r : Rp K bk.root M H x v) (hx : ∀ n, x ≠ .obj n) : TyX K H v (.type (tyN x)) := by
  cases x
  · rw [rp_non r]; exact .base .non
  · rw [rp_bl r]; exact .base (.bl _)
  · rw [rp_int r]; exact .base (.int _)
  · rw [rp_str r]; exact .base (.str _)
  · obtain ⟨a, vs, rfl, h1, _⟩ := rp_tup r
    rcases h1 with (h1 | ⟨o, h1⟩) | ⟨o, its, n, h1, h2, _⟩
    · exact .base (.tup h1)
    · exact .fTuple h1
    · exact .kTuple h1 h2
  · rename_i n
    obtain ⟨a, ea, rfl⟩ := rp_lst r
    have hn : n < S.length := by rw [← s.st.len]; exact (List.getElem?_eq_some_iff.mp ea.1).1
    obtain ⟨vs, h1, _⟩ := s.lst ea (List.getElem?_eq_getElem hn)
    exact .base (.lst h1)
  · obtain ⟨a, vs, rfl, h1, _⟩ := rp_rol r
    rcases h1 with ⟨o, h1⟩ | ⟨o, its, n, h1, h2, _⟩
    · exact .base (.frz h1)
    · exact .kList h1 h2
  · rw [Rp] at r
    obtain ⟨own, a, e1, e2, rfl⟩ := r
    have b := s.bag
    rw [e1] at b
    obtain ⟨_, _, cs, _, _, t⟩ := b
    obtain ⟨c, _, h1⟩ := t _ _ e2
    exact .base (.lst h1)
  · obtain ⟨a, ea, rfl⟩ := rp_dic r
    have hn := (List.getElem?_eq_some_iff.mp ea.1).1
    rw [s.st.len] at hn
    obtain ⟨b, c, o, e1, e2, e3, e4⟩ := s.st.at_ _ _ (List.getElem?_eq_getElem hn)
    rw [ea.1] at e1
    rw [ea.2] at e2
    cases e1
    cases e2
    obtain ⟨ys, vs, _, rfl, _⟩ := e4
    exact .base (.dK e3)
  · exact absurd rfl (hx _)
theorem q_isi {T : Ty1} {p1 p2 pos : Pos} {e : Expr} {f : PTE} {y : Str} (hT : IsiT T) (hg : Gl X "isinstance") (hm : X.mg "isinstance" = none) (hv : bootBuiltins "isinstance" = some (.builtin "isinstance")) (ha : QE bk X e f)
    (hgT : Gl X y) (hmT : X.mg y = none) (hvT : bootBuiltins y = some (.type T.name)) (hn : y ≠ "__name__" := by decide) (hd : (y == ("__debug__" : Str)) = false := by decide)
    (he1 : starEach [e, .Name y p2] X.env = (false, eval e X.env) :: starEach [.Name y p2] X.env := by rfl) (he2 : starEach [.Name y p2] X.env = (false, eval (.Name y p2) X.env) :: starEach [] X.env := by rfl)
    (hpl : (backTo pos (starEach [.Name y p2] X.env)).any (·.1) = false := by rfl) : QE bk X (.Call (.Name "isinstance" p1) [e, .Name y p2] [] pos) (pIsi T f) := by
  obtain ⟨ta, pa, wa⟩ := ha.ex
  refine ⟨_, pe_callB call_isi hg hm hv (pa_cons pa (pa_cons (pe_bltn (v := .ty T.name) hgT hmT hvT rfl hn hd) pa_nil he2) he1) (by decide) (by decide) he1 hpl, fun E M ρ S σ H Q Q' R q p => ?_⟩
  refine wa E M ρ S σ H _ _ R q fun M1 S1 H1 x v t1 s1 r1 q1 => ?_
  have hx : ∀ n, x ≠ .obj n := fun n z => by subst z; exact q1
  have q1 : Q (.bl (isT T x)) S1 := by
    cases x <;> first | exact q1 | exact q1.elim
  exact ⟨v, .ty T.name, _, _, isT T x, rfl, .ty T.name, tyx_of s1 r1 hx, kit_ty (hT.h x hx), p M1 S1 H1 _ _ t1 s1 to_bl q1⟩
end

/-! ### methods of lists -/
def pAppend (f g : PTE) : PTE := fun E ρ S Q => f E ρ S fun x S1 => match x with
  | .lst n => g E ρ S1 fun y S2 => onO S2[n]? fun xs => xs.length < 16777216 ∧ Q .non (S2.set n (xs ++ [y]))
  | _ => False
instance {f g : PTE} [MoE f] [MoE g] : MoE (pAppend f g) := ⟨fun h q => MoE.mo (f := f) (fun x _ q => by
  cases x <;> first | exact q.elim | exact MoE.mo (f := g) (fun _ _ q => onO_mo (fun _ q => ⟨q.1, h _ _ q.2⟩) q) q) q⟩
def pPop (f : PTE) : PTE := fun E ρ S Q => f E ρ S fun x S1 => match x with
  | .lst n => onO S1[n]? fun xs => onO xs.getLast? fun y => Q y (S1.set n xs.dropLast)
  | _ => False
instance {f : PTE} [MoE f] : MoE (pPop f) := ⟨fun h q => MoE.mo (f := f) (fun x _ q => by
  cases x <;> first | exact q.elim | exact onO_mo (fun _ q => onO_mo (fun _ q => h _ _ q) q) q) q⟩
def pReverse (f : PTE) : PTE := fun E ρ S Q => f E ρ S fun x S1 => match x with
  | .lst n => onO S1[n]? fun xs => Q .non (S1.set n xs.reverse)
  | _ => False
instance {f : PTE} [MoE f] : MoE (pReverse f) := ⟨fun h q => MoE.mo (f := f) (fun x _ q => by
  cases x <;> first | exact q.elim | exact onO_mo (fun _ q => h _ _ q) q) q⟩
def pExtend (f g : PTE) : PTE := fun E ρ S Q => f E ρ S fun x S1 => match x with
  | .lst n => g E ρ S1 fun y S2 => match y with
    | .lst m => onO S2[n]? fun xs => onO S2[m]? fun ys => xs.length + ys.length ≤ 16777216 ∧ Q .non (S2.set n (xs ++ ys))
    | _ => False
  | _ => False
instance {f g : PTE} [MoE f] [MoE g] : MoE (pExtend f g) := ⟨fun h q => MoE.mo (f := f) (fun x _ q => by
  cases x <;> first | exact q.elim | exact MoE.mo (f := g) (fun y _ q => by
    cases y <;> first | exact q.elim | exact onO_mo (fun _ q => onO_mo (fun _ q => ⟨q.1, h _ _ q.2⟩) q) q) q) q⟩
section
variable {bk : BagKind} {K : PySem.W.Frag} {X : Cx} {o e : Expr} {f g : PTE} {apos cpos : Pos}
theorem Rps.reverse {M : Am} {H : Hp} {r : Nat} : ∀ {xs : List PV} {vs : List V}, Rps K r M H xs vs → Rps K r M H xs.reverse vs.reverse
  | [], vs, h => by rw [Rps] at h; subst h; exact Rps.nil
  | x :: xs, vs, h => by
    rw [Rps] at h
    obtain ⟨v, ws, rfl, h1, h2⟩ := h
    rw [List.reverse_cons, List.reverse_cons]
    exact (Rps.reverse h2).append (.cons h1 .nil)
theorem Rps.snoc {M : Am} {H : Hp} {r : Nat} : ∀ {xs : List PV} {y : PV} {vs : List V}, Rps K r M H (xs ++ [y]) vs → ∃ ws w, vs = ws ++ [w] ∧ Rps K r M H xs ws ∧ Rp K r M H y w
  | [], y, vs, h => by
    obtain ⟨v, rfl, h1⟩ := rps1 (by simpa using h)
    exact ⟨[], v, rfl, .nil, h1⟩
  | x :: xs, y, vs, h => by
    rw [List.cons_append, Rps] at h
    obtain ⟨v, ws, rfl, h1, h2⟩ := h
    obtain ⟨us, w, rfl, h3, h4⟩ := Rps.snoc h2
    exact ⟨v :: us, w, rfl, .cons h1 h3, h4⟩
theorem Sto.tyL {M : Am} {S : Store} {H : Hp} {n : Nat} {a : Addr} (s : Sto K bk M S H) (ea : LsAt M n a) : tyV K "list" (.ref a) H := by
  have hn : n < S.length := by rw [← s.st.len]; exact (List.getElem?_eq_some_iff.mp ea.1).1
  obtain ⟨vs, h1, _⟩ := s.lst ea (List.getElem?_eq_getElem hn)
  exact .inl ⟨rfl, vs, SqL.of h1⟩
theorem Step.at {M M' : Am} {H H' : Hp} (t : Step M H M' H') {n : Nat} {a : Addr} (e : LsAt M n a) : LsAt M' n a := LsAt.at e t
theorem q_append (ho : QE bk X o f) (he : QE bk X e g)
    (hbase : attributeBase o "append" X.env (eval o X.env) = eval o X.env := by rfl)
    (hfew : ((backTo cpos (starEach [e] X.env)).all (fun x => !x.1) && (backToKw cpos (keywordEach [] X.env)).all (fun x => x.1.isSome)
      && decide (([e] : List Expr).length + ([] : List Keyword).length + (if ([] : List Keyword).isEmpty then 0 else 1) < 30)) = true := by rfl)
    (hline : (apos.endLine == cpos.line) = true := by rfl) (hs : starEach [e] X.env = (false, eval e X.env) :: starEach [] X.env := by rfl) (hplain : (backTo cpos (starEach [] X.env)).any (·.1) = false := by rfl) :
    QE bk X (.Call (.Attribute o "append" apos) [e] [] cpos) (pAppend f g) := by
  obtain ⟨ta, pa, wa⟩ := ho.ex
  obtain ⟨tb, pb, wb⟩ := he.ex
  refine ⟨_, pe_bm PySem.F.plainAttrs_list PySem.F.slot_list_append PySem.F.type_list_append mt_append pa (pa_cons pb pa_nil hs) hbase hfew hline hs hplain, fun E M ρ S σ H Q Q' R q p => ?_⟩
  refine wa E M ρ S σ H _ _ R q fun M1 S1 H1 x v t1 s1 r1 q1 => ?_
  cases x <;> first | exact q1.elim | skip
  rename_i n
  obtain ⟨a, ea, rfl⟩ := rp_lst r1
  refine ⟨s1.tyL ea, wb E M1 ρ S1 σ H1 _ _ (R.step t1 s1) q1 fun M2 S2 H2 y w t2 s2 r2 q2 => ?_⟩
  obtain ⟨xs, e1, hl, q2⟩ := onO_ex q2
  have ea2 := t2.at ea
  obtain ⟨vs, h1, sv⟩ := s2.lst ea2 e1
  obtain ⟨t3, s3⟩ := s2.write ea2 (sv.append (.cons r2 .nil))
  exact ⟨a, vs, w, rfl, rfl, h1, by rw [sv.length, szl]; exact hl, p _ _ _ _ _ (t1.trans (t2.trans t3)) s3 to_non q2⟩
theorem q_extend (ho : QE bk X o f) (he : QE bk X e g)
    (hbase : attributeBase o "extend" X.env (eval o X.env) = eval o X.env := by rfl)
    (hfew : ((backTo cpos (starEach [e] X.env)).all (fun x => !x.1) && (backToKw cpos (keywordEach [] X.env)).all (fun x => x.1.isSome)
      && decide (([e] : List Expr).length + ([] : List Keyword).length + (if ([] : List Keyword).isEmpty then 0 else 1) < 30)) = true := by rfl)
    (hline : (apos.endLine == cpos.line) = true := by rfl) (hs : starEach [e] X.env = (false, eval e X.env) :: starEach [] X.env := by rfl) (hplain : (backTo cpos (starEach [] X.env)).any (·.1) = false := by rfl) :
    QE bk X (.Call (.Attribute o "extend" apos) [e] [] cpos) (pExtend f g) := by
  obtain ⟨ta, pa, wa⟩ := ho.ex
  obtain ⟨tb, pb, wb⟩ := he.ex
  refine ⟨_, pe_bm PySem.F.plainAttrs_list PySem.F.slot_list_extend PySem.F.type_list_extend mt_extend pa (pa_cons pb pa_nil hs) hbase hfew hline hs hplain, fun E M ρ S σ H Q Q' R q p => ?_⟩
  refine wa E M ρ S σ H _ _ R q fun M1 S1 H1 x v t1 s1 r1 q1 => ?_
  cases x <;> first | exact q1.elim | skip
  rename_i n
  obtain ⟨a, ea, rfl⟩ := rp_lst r1
  refine ⟨s1.tyL ea, wb E M1 ρ S1 σ H1 _ _ (R.step t1 s1) q1 fun M2 S2 H2 y w t2 s2 r2 q2 => ?_⟩
  cases y <;> first | exact q2.elim | skip
  rename_i m
  obtain ⟨xs, e1, q2⟩ := onO_ex q2
  obtain ⟨ys, e2, hl, q2⟩ := onO_ex q2
  have ea2 := t2.at ea
  obtain ⟨vs, h1, sv⟩ := s2.lst ea2 e1
  obtain ⟨b, eb, rfl⟩ := rp_lst r2
  obtain ⟨ws, h2, sw⟩ := s2.lst eb e2
  obtain ⟨t3, s3⟩ := s2.write ea2 (sv.append sw)
  exact ⟨a, b, vs, ws, rfl, rfl, h1, h2, by rw [sv.length, sw.length, szl]; exact hl, p _ _ _ _ _ (t1.trans (t2.trans t3)) s3 to_non q2⟩
theorem q_pop (ho : QE bk X o f) (hbase : attributeBase o "pop" X.env (eval o X.env) = eval o X.env := by rfl) (hline : (apos.endLine == cpos.line) = true := by rfl) : QE bk X (.Call (.Attribute o "pop" apos) [] [] cpos) (pPop f) := by
  obtain ⟨ta, pa, wa⟩ := ho.ex
  refine ⟨_, pe_bm0 PySem.F.plainAttrs_list PySem.F.slot_list_pop PySem.F.type_list_pop mt_pop pa hbase hline, fun E M ρ S σ H Q Q' R q p => ?_⟩
  refine wa E M ρ S σ H _ _ R q fun M1 S1 H1 x v t1 s1 r1 q1 => ?_
  cases x <;> first | exact q1.elim | skip
  rename_i n
  obtain ⟨zs, e1, q1⟩ := onO_ex q1
  obtain ⟨y, e2, q1⟩ := onO_ex q1
  obtain ⟨xs, rfl⟩ := List.getLast?_eq_some_iff.mp e2
  rw [List.dropLast_concat] at q1
  obtain ⟨a, ea, rfl⟩ := rp_lst r1
  obtain ⟨vs, h1, sv⟩ := s1.lst ea e1
  obtain ⟨ws, w, rfl, r3, r4⟩ := sv.snoc
  obtain ⟨t3, s3⟩ := s1.write ea r3
  refine ⟨s1.tyL ea, a, _, w, rfl, rfl, h1, by simp, ?_⟩
  rw [List.dropLast_concat]
  exact p _ _ _ _ _ (t1.trans t3) s3 (r4.step s1 t3) q1
theorem q_reverse (ho : QE bk X o f) (hbase : attributeBase o "reverse" X.env (eval o X.env) = eval o X.env := by rfl) (hline : (apos.endLine == cpos.line) = true := by rfl) : QE bk X (.Call (.Attribute o "reverse" apos) [] [] cpos) (pReverse f) := by
  obtain ⟨ta, pa, wa⟩ := ho.ex
  refine ⟨_, pe_bm0 PySem.F.plainAttrs_list PySem.F.slot_list_reverse PySem.F.type_list_reverse mt_reverse pa hbase hline, fun E M ρ S σ H Q Q' R q p => ?_⟩
  refine wa E M ρ S σ H _ _ R q fun M1 S1 H1 x v t1 s1 r1 q1 => ?_
  cases x <;> first | exact q1.elim | skip
  rename_i n
  obtain ⟨xs, e1, q1⟩ := onO_ex q1
  obtain ⟨a, ea, rfl⟩ := rp_lst r1
  obtain ⟨vs, h1, sv⟩ := s1.lst ea e1
  obtain ⟨t3, s3⟩ := s1.write ea sv.reverse
  exact ⟨s1.tyL ea, a, _, rfl, rfl, h1, p _ _ _ _ _ (t1.trans t3) s3 to_non q1⟩
end
end L2.P3
namespace L2.P3
open PySem PySem.Spec PyProof.Rows

/-! ### names of the built-ins -/
theorem bb_abs : bootBuiltins "abs" = some (.builtin "abs") := by decide +kernel
theorem bb_max : bootBuiltins "max" = some (.builtin "max") := by decide +kernel
theorem bb_min : bootBuiltins "min" = some (.builtin "min") := by decide +kernel
theorem bb_sum : bootBuiltins "sum" = some (.builtin "sum") := by decide +kernel
theorem bb_divmod : bootBuiltins "divmod" = some (.builtin "divmod") := by decide +kernel
theorem bb_sorted : bootBuiltins "sorted" = some (.builtin "sorted") := by decide +kernel
theorem bb_isinstance : bootBuiltins "isinstance" = some (.builtin "isinstance") := by decide +kernel
theorem bb_int : bootBuiltins "int" = some (.type "int") := by decide +kernel
theorem bb_bool : bootBuiltins "bool" = some (.type "bool") := by decide +kernel
theorem bb_str : bootBuiltins "str" = some (.type "str") := by decide +kernel
theorem bb_tuple : bootBuiltins "tuple" = some (.type "tuple") := by decide +kernel
theorem bb_list : bootBuiltins "list" = some (.type "list") := by decide +kernel

/-! ### a walk over any sequence -/
def iSeq (K : PySem.W.Frag) (tl : TE) : TI := fun σ H R => tl σ H fun x H1 => (∃ a, x = .ref a ∧ (∃ xs, SqL K H1 a xs) ∧ R (Itl K a) H1) ∨ (∃ a, x = .ref a ∧ (∃ xs, SqT K H1 a xs) ∧ R (Itt K a) H1)
theorem pi_seq {X : Cx} {tg l : Expr} {tl : TE} (hl : PE X l tl) : PI X tg l (iSeq X.K tl) := by
  refine ⟨fun pins s σ H R I h => ?_⟩
  refine thn (hl.run pins s σ H _ I h) fun v s1 ⟨x, H1, I1, r1, q1⟩ => ?_
  rcases q1 with ⟨a, rfl, ⟨xs, hq⟩, q⟩ | ⟨a, rfl, ⟨xs, hq⟩, q⟩
  all_goals cases r1
  · obtain ⟨its, rv, pl, hz⟩ := I1.list hq
    have new : s1.heap.objs.size ≤ s1.heap.objs.size := Nat.le_refl _
    exact wpAny_pyIter_list pl.isList ⟨_, [s1.heap.objs.size], _, _, H1, rfl, I1.kept (t' := s1.toks) fun _ _ z => Heap.get?_push_of_some _ z, turn_list a _, ⟨_, Heap.get?_push_size _ rfl, rfl, rfl⟩,
      fun b hb => by rw [show b = s1.heap.objs.size by simpa using hb]; exact I1.fpOk new (I1.hok.fresh new), q⟩
  · obtain ⟨its, rv, pl, hz⟩ := I1.tuple hq
    have new : s1.heap.objs.size ≤ s1.heap.objs.size := Nat.le_refl _
    exact wpAny_pyIter_tuple (show s1.heap.IsTuple a its.toArray from pl) ⟨_, [s1.heap.objs.size], _, _, H1, rfl, I1.kept (t' := s1.toks) fun _ _ z => Heap.get?_push_of_some _ z, turn_tuple a _, ⟨_, Heap.get?_push_size _ rfl, rfl, rfl⟩,
      fun b hb => by rw [show b = s1.heap.objs.size by simpa using hb]; exact I1.fpOk new (I1.hok.fresh new), q⟩
def iAny (f : PTE) : PTI := fun E ρ S R => f E ρ S fun x S1 => match x with
  | .lst n => onO S1[n]? fun xs => R ⟨xs, fun S => S[n]? = some xs⟩ S1
  | .rol xs => R ⟨xs, fun _ => True⟩ S1
  | .tup xs => R ⟨xs, fun _ => True⟩ S1
  | _ => False
instance {f : PTE} [MoE f] : MoI (iAny f) := ⟨fun h q => MoE.mo (f := f) (fun x _ q => by
  cases x <;> first | exact q.elim | exact h _ _ q | exact onO_mo (fun _ q => h _ _ q) q) q⟩
section
variable {bk : BagKind} {X : Cx} {h : PTE}
theorem itok_lst {K : PySem.W.Frag} {M1 : Am} {S1 : Store} {H1 : Hp} {n : Nat} {xs : List PV} {a : Addr} (ea : LsAt M1 n a) : ItOk bk K ⟨xs, fun S => S[n]? = some xs⟩ (Itl K a) M1 H1 := fun M S H k t s ck => by
  obtain ⟨ws, ehb, rsb⟩ := s.lst (t.at ea) ck
  refine ⟨fun x e => ?_, fun e => ⟨ws, SqL.of ehb, by rw [rsb.length]; simpa using e⟩⟩
  obtain ⟨w, ew, rw'⟩ := rsb.get e
  refine ⟨⟨ws, w, SqL.of ehb, ew⟩, fun v H' y => ?_⟩
  obtain ⟨rfl, y⟩ := y
  have y2 := y ws (SqL.of ehb)
  rw [ew] at y2
  obtain rfl := Option.some.inj y2
  exact ⟨.refl M _, s, rw'⟩
theorem itok_rol {K : PySem.W.Frag} {M1 : Am} {S1 : Store} {H1 : Hp} {xs : List PV} {a : Addr} {vs : List V} (s1 : Sto K bk M1 S1 H1) (fz : FzL K H1 a vs) (rs : Rps K bk.root M1 H1 xs vs) : ItOk bk K ⟨xs, fun _ => True⟩ (Itl K a) M1 H1 := fun M S H k t s ck => by
  have kp := s1.kp t
  have fz' := (kp.l a vs fz).sq
  have rs' := rs.kp kp
  refine ⟨fun x e => ?_, fun e => ⟨vs, fz', by rw [rs.length]; simpa using e⟩⟩
  obtain ⟨w, ew, rw'⟩ := rs'.get e
  refine ⟨⟨vs, w, fz', ew⟩, fun v H' y => ?_⟩
  obtain ⟨rfl, y⟩ := y
  have y2 := y vs fz'
  rw [ew] at y2
  obtain rfl := Option.some.inj y2
  exact ⟨.refl M _, s, rw'⟩
theorem itok_tup {K : PySem.W.Frag} {M1 : Am} {S1 : Store} {H1 : Hp} {xs : List PV} {a : Addr} {vs : List V} (s1 : Sto K bk M1 S1 H1) (fz : SqT K H1 a vs) (rs : Rps K bk.root M1 H1 xs vs) : ItOk bk K ⟨xs, fun _ => True⟩ (Itt K a) M1 H1 := fun M S H k t s ck => by
  have kp := s1.kp t
  have fz' := kp.t a vs fz
  have rs' := rs.kp kp
  refine ⟨fun x e => ?_, fun e => ⟨vs, fz', by rw [rs.length]; simpa using e⟩⟩
  obtain ⟨w, ew, rw'⟩ := rs'.get e
  refine ⟨⟨vs, w, fz', ew⟩, fun v H' y => ?_⟩
  obtain ⟨rfl, y⟩ := y
  have y2 := y vs fz'
  rw [ew] at y2
  obtain rfl := Option.some.inj y2
  exact ⟨.refl M _, s, rw'⟩
theorem qi_any {tg a : Expr} (ha : QE bk X a h) : QI bk X tg a (iAny h) := by
  obtain ⟨ta, pa, wa⟩ := ha.ex
  refine ⟨_, pi_seq pa, fun E M ρ S σ H R R' rel q k => ?_⟩
  refine wa E M ρ S σ H _ _ rel q fun M1 S1 H1 x v t1 s1 r1 q1 => ?_
  cases x <;> first | exact q1.elim | skip
  · obtain ⟨a, vs, rfl, fz, rs⟩ := rp_tup r1
    exact .inr ⟨a, rfl, ⟨vs, fz⟩, k M1 S1 H1 _ _ t1 s1 (itok_tup s1 fz rs) q1⟩
  · obtain ⟨xs, e1, q1⟩ := onO_ex q1
    obtain ⟨a, ea, rfl⟩ := rp_lst r1
    obtain ⟨vs, eh, rs⟩ := s1.lst ea e1
    exact .inl ⟨a, rfl, ⟨vs, SqL.of eh⟩, k M1 S1 H1 _ _ t1 s1 (itok_lst (S1 := S1) ea) q1⟩
  · obtain ⟨a, vs, rfl, fz, rs⟩ := rp_rol r1
    exact .inl ⟨a, rfl, ⟨vs, fz.sq⟩, k M1 S1 H1 _ _ t1 s1 (itok_rol s1 fz rs) q1⟩
end

/-! ### a def that promises nothing; the law -/
theorem ok_false {P : Program} {w : World} {K : PySem.W.Frag} {mg : Str → Option Value} {base : Heap} {bk : BagKind} {CX : CXT} {k : Nat} {f : Addr} {fd : FuncData} {ps : List Str} : FnOk P w K mg base CX k f fd ps (sp0 bk K fun _ _ => False) :=
  ⟨fun _ _ _ _ ⟨_, _, _, _, z⟩ => z.elim, fun _ _ _ _ _ _ _ _ _ _ _ _ _ ⟨_, _, _, _, z⟩ => z.elim⟩
instance : Mo0 (fun _ _ => False) := ⟨fun _ q => q⟩
def spLawT (tabs : List Addr) (K : PySem.W.Frag) : Sp := fun vs H Q _ => ∃ (a : Addr) (ns : List Int), vs = [.ref a] ∧ FzL K H a (ns.map V.int) ∧ ns.length ≤ 63 ∧ (∀ P ∈ tabs, Tbl H P) ∧ ∀ H', Q (.bl true) H'
def spLaw (K : PySem.W.Frag) : Sp := fun vs H Q _ => ∃ (a : Addr) (ns : List Int), vs = [.ref a] ∧ FzL K H a (ns.map V.int) ∧ ns.length ≤ 63 ∧ ∀ H', Q (.bl true) H'
theorem spLaw_start {K : PySem.W.Frag} {H : Hp} {a : Addr} {ns : List Int} (hO : Only H) (hS : SqL K H a (ns.map V.int)) (hl : ns.length ≤ 63) : spLaw K [.ref a] H (fun v _ => v = .bl true) fun _ _ _ => False := by
  refine ⟨a, ns, rfl, ?_, hl, fun _ => rfl⟩
  rcases hS with (h | ⟨o, h⟩) | h
  · rcases hO a with z | ⟨o, xs, z⟩
    · rw [z] at h; cases h
    · rw [z] at h; cases h
  · exact .inl ⟨o, h⟩
  · exact .inr h
/-- the maker of the law's bag -/
def spBag (bk : BagKind) (K : PySem.W.Frag) : Sp := fun vs H Q _ => ∃ (a : Addr) (ns : List Int), vs = [.ref a] ∧ FzL K H a (ns.map V.int) ∧ ns.length ≤ 63 ∧ (∀ P ∈ bk.tabs, Tbl H P) ∧
  ∀ H' own a', (∀ b x, (∀ ps, x ≠ .tbl ps) → H b = some x → H' b = some x) → (∀ P, Tbl H P → Tbl H' P) → BagOk bk H' (some own) → own[bk.root]? = some a' → Q (.ref a') H'
theorem rps_of_ints {K : PySem.W.Frag} {r : Nat} {M : Am} {H : Hp} : ∀ ns : List Int, Rps K r M H (ns.map PV.int) (ns.map V.int)
  | [] => .nil
  | n :: ns => .cons to_int (rps_of_ints ns)
/-- the law: its bag is made, the rest runs over plain values -/
theorem law_topT {P : Program} {w : World} {K : PySem.W.Frag} {mg : Str → Option Value} {base : Heap} {bk : BagKind} {f g : Addr} {fd gd : FuncData} {N : List Str} {k kg : Nat} {st : Stmt} {b : PTS} {gn x : Str} {p1 p2 p3 p4 p5 : Pos} {rest : List Stmt}
    (F : Fun K "law" "law" st f fd) (Sc : FnScope N ["script"] (defScope st)) (hN : 2 ≤ N.length) (hb : defBody st = .Assign [.Name x p1] (.Call (.Name gn p2) [.Name "script" p3] [] p4) p5 :: rest)
    (G : FnOk P w K mg base CX0 kg g gd ["script"] (spBag bk K)) (hk : kg ≤ k) (hm : mg gn = some (.ref g)) (kp : PySem.W.keepIn K (.ref g) = true) (bG : Binds K gd ["script"] [])
    (h1 : ∀ (cdv : Value) (A : Around) (outer : List PySem.Env) (s : Shared) (H : Hp) (E : XK), Room k (A.deeper (envOfC "law" (defScope st) s.heap.objs.size f cdv)) →
      ∃ tg, PS (cxOf CX0 P w K mg base N "law" (defScope st) f cdv A outer s H E).nox (.Assign [.Name x p1] (.Call (.Name gn p2) [.Name "script" p3] [] p4) p5) tg ∧ ∀ D σ H, (∃ v, σ[0]? = some (some v) ∧ spBag bk K [v] H (fun y H1 => D.nx (σ.set 1 (some y)) H1) E0) → tg D σ H)
    (h2 : ∀ (cdv : Value) (A : Around) (outer : List PySem.Env) (s : Shared) (H : Hp) (E : XK), Room k (A.deeper (envOfC "law" (defScope st) s.heap.objs.size f cdv)) → QSs bk (cxOf CX0 P w K mg base N "law" (defScope st) f cdv A outer s H E).nox rest b)
    (hlaw : ∀ ns : List Int, ns.length ≤ 63 → b noX { nx := fun _ _ => False, rt := fun r _ => r = .bl true } ((start0 N.length [.rol (ns.map PV.int)]).set 1 (some .bag)) []) :
    FnOk P w K mg base CX0 (k + 1) f fd ["script"] (spLawT bk.tabs K) := by
  refine F.ok Sc (fun vs H Q E q => ?_) (fun cdv A outer s H vs Q E hr q => ?_)
  · obtain ⟨a, ns, rfl, _⟩ := q; rfl
  · obtain ⟨a, ns, rfl, fz, hl, tb, q⟩ := q
    obtain ⟨tg, pg, wg⟩ := h1 cdv A outer s H E hr
    obtain ⟨t, p, wt⟩ := (h2 cdv A outer s H E hr).ex
    refine ⟨tSeq tg t, by rw [hb]; exact pss_cons pg p, wg _ _ _ ⟨.ref a, rfl, a, ns, rfl, fz, hl, tb, fun H' own a' keep kt bag root => ?_⟩⟩
    have fz' : FzL K H' a (ns.map V.int) := by
      rcases fz with ⟨o, z⟩ | z
      · exact .inl ⟨o, keep _ _ (fun ps z => by cases z) z⟩
      · exact .inr z
    have st0 : Sto K bk ⟨[], some own, []⟩ [] H' := ⟨⟨rfl, rfl, List.nodup_nil, fun n xs e => by simp at e⟩, bag, fun b h => by simp at h, fun P hP => kt P (tb P hP)⟩
    have r0 : Rps K bk.root ⟨[], some own, []⟩ H' [.rol (ns.map PV.int)] [.ref a] := .cons (by rw [Rp]; exact ⟨a, _, rfl, fz', rps_of_ints ns⟩) .nil
    have R0 := (rel_start (N := N) st0 r0).set 1 (x := .bag) (v := .ref a') (by rw [Rp]; exact ⟨own, a', rfl, root, rfl⟩)
    refine wt noX ⟨[], some own, []⟩ _ [] _ H' _ _ R0 (hlaw ns hl) ⟨fun _ _ _ _ _ _ _ z => z.elim, fun M' S' H2 x v t' s' r' e => ?_, fun _ _ _ _ _ _ _ z => z.elim, fun _ _ _ _ _ _ _ z => z.elim⟩
    have e' : x = .bl true := e
    subst e'
    rw [rp_bl r']; exact q H2
theorem law_top {P : Program} {w : World} {K : PySem.W.Frag} {mg : Str → Option Value} {base : Heap} {bk : BagKind} {f g : Addr} {fd gd : FuncData} {N : List Str} {k kg : Nat} {st : Stmt} {b : PTS} {gn x : Str} {p1 p2 p3 p4 p5 : Pos} {rest : List Stmt}
    (F : Fun K "law" "law" st f fd) (Sc : FnScope N ["script"] (defScope st)) (hN : 2 ≤ N.length) (hb : defBody st = .Assign [.Name x p1] (.Call (.Name gn p2) [.Name "script" p3] [] p4) p5 :: rest)
    (G : FnOk P w K mg base CX0 kg g gd ["script"] (spBag bk K)) (hk : kg ≤ k) (hm : mg gn = some (.ref g)) (kp : PySem.W.keepIn K (.ref g) = true) (bG : Binds K gd ["script"] [])
    (h1 : ∀ (cdv : Value) (A : Around) (outer : List PySem.Env) (s : Shared) (H : Hp) (E : XK), Room k (A.deeper (envOfC "law" (defScope st) s.heap.objs.size f cdv)) →
      ∃ tg, PS (cxOf CX0 P w K mg base N "law" (defScope st) f cdv A outer s H E).nox (.Assign [.Name x p1] (.Call (.Name gn p2) [.Name "script" p3] [] p4) p5) tg ∧ ∀ D σ H, (∃ v, σ[0]? = some (some v) ∧ spBag bk K [v] H (fun y H1 => D.nx (σ.set 1 (some y)) H1) E0) → tg D σ H)
    (h2 : ∀ (cdv : Value) (A : Around) (outer : List PySem.Env) (s : Shared) (H : Hp) (E : XK), Room k (A.deeper (envOfC "law" (defScope st) s.heap.objs.size f cdv)) → QSs bk (cxOf CX0 P w K mg base N "law" (defScope st) f cdv A outer s H E).nox rest b)
    (hlaw : ∀ ns : List Int, ns.length ≤ 63 → b noX { nx := fun _ _ => False, rt := fun r _ => r = .bl true } ((start0 N.length [.rol (ns.map PV.int)]).set 1 (some .bag)) []) (ht : bk.tabs = [] := by rfl) :
    FnOk P w K mg base CX0 (k + 1) f fd ["script"] (spLaw K) :=
  (law_topT (bk := bk) F Sc hN hb G hk hm kp bG h1 h2 hlaw).imp fun _ _ _ _ ⟨a, ns, e, fz, hl, q⟩ => ⟨a, ns, e, fz, hl, (by rw [ht]; exact fun P hP => by cases hP), q⟩
end L2.P3
namespace L2.P3
open PySem PySem.Spec PyProof.Rows
/-! ### range(a, b) of numbers of any size -/
theorem turn_long {P : Program} {w : World} {K : PySem.W.Frag} {tg : Expr} (it : Addr) (lo : Int) (n : Nat) : Turn P w K tg (Itr lo n) [it] it (fun i h => IsLongIter h it (lo + (i : Nat) * 1) ((n : Int) - (i : Nat)) 1) where
  mem := by simp
  obj := fun i h st b hb => by
    obtain rfl : b = it := by simpa using hb
    refine ⟨_, st, fun v z => ?_⟩
    have z' : Data.fields _ = Data.cell v := z
    cases z'
  keep := fun i h h' st k => k it (by simp) _ st
  item := by
    intro X hP hw hK hc i pins s σ H E I hf st hg
    subst hP hw hK
    obtain ⟨f0, f1, f2, f3, f4, f5⟩ := hf it (by simp)
    refine (Walks.longrange (prog := X.prog) (w := X.w) (I.ok.hd hc) it lo 1 n).item i s _ _ hg st fun v h' tk hv st' kk => ?_
    obtain ⟨t, rfl⟩ := hv
    have I1 : Inv X pins σ H { s with heap := h', toks := tk } := I.turned (fun b o hb e => kk b o (by simpa using hb) e) f0 f1 f3 f4 f5
    exact ⟨_, rfl, go_of (s := { s with heap := h', toks := tk }) (n := "longrange_iterator") st' rfl rfl (by decide) ⟨.int (lo + i), H, I1, ⟨t, by rw [Int.mul_one]⟩, ⟨rfl, rfl⟩, st', fun b hb => (hf b hb).1⟩⟩
  done := by
    intro X hP hw hK hc i pins s σ H E I hf st hg
    subst hP hw hK
    obtain ⟨f0, f1, f2, f3, f4, f5⟩ := hf it (by simp)
    refine wpAny_pyNext_long_end (I.ok.hd hc) st (by have : n ≤ i := hg; omega) fun h' eb => ?_
    exact ⟨rfl, I.turned (t' := s.toks) (fun b o hb e => eb b o hb e) f0 f1 f3 f4 f5⟩
  self := fun _ _ _ _ _ st h => wpAny_pyIter_longiter st h
theorem range_any {X : Cx} {tg : Expr} {pins : List (Addr × Obj)} {σ : St} {H : Hp} {s : Shared} {R : It → Hp → Prop} {E : Value → Shared → Prop} {lo hi : Int} {t u v : Tok} {tk : Nat} (I : Inv X pins σ H s)
    (q : R (Itr lo (hi - lo).toNat) H) : wpAny (model X.prog X.w) X.A (pyIter (.ref s.heap.objs.size)) (PIE X pins σ tg R) E { s with heap := s.heap.push { cls := .type "range", data := .fields #[.int lo t, .int hi u, .int 1 v] }, toks := tk } := by
  have I1 : Inv X pins σ H { s with heap := s.heap.push { cls := .type "range", data := .fields #[.int lo t, .int hi u, .int 1 v] }, toks := tk } := I.kept fun _ _ z => Heap.get?_push_of_some _ z
  have hn : (((hi - lo).toNat : Nat) : Int) - ((0 : Nat) : Int) = Builtin.Range.rangeSize lo hi 1 := by rw [rangeSize_one]; split <;> omega
  have h0 : lo + ((0 : Nat) : Int) * 1 = lo := by simp
  have fp : ∀ b ∈ [(s.heap.push { cls := .type "range", data := .fields #[.int lo t, .int hi u, .int 1 v] }).objs.size], FpOk X pins H b := fun b hb => by
    obtain rfl : b = (s.heap.push { cls := .type "range", data := .fields #[.int lo t, .int hi u, .int 1 v] }).objs.size := by simpa using hb
    exact I1.fpOk (Nat.le_refl _) (I1.hok.fresh (Nat.le_refl _))
  cases hs : Builtin.Range.small lo hi 1 with
  | true =>
    refine wpAny_pyIter_range (IsRange.new ..) hs ⟨_, [_], _, _, H, rfl, I1.kept (t' := tk) fun _ _ z => Heap.get?_push_of_some _ z, turn_range _ lo (hi - lo).toNat, ?_, fp, q⟩
    show IsRangeIter _ _ (lo + ((0 : Nat) : Int) * 1) ((((hi - lo).toNat : Nat) : Int) - ((0 : Nat) : Int)) 1
    rw [h0, hn]
    exact Heap.get?_push_size _ rfl
  | false =>
    refine wpAny_pyIter_longrange (IsRange.new ..) hs ⟨_, [_], _, _, H, rfl, I1.kept (t' := tk) fun _ _ z => Heap.get?_push_of_some _ z, turn_long _ lo (hi - lo).toNat, ?_, fp, q⟩
    show IsLongIter _ _ (lo + ((0 : Nat) : Int) * 1) ((((hi - lo).toNat : Nat) : Int) - ((0 : Nat) : Int)) 1
    rw [h0, hn]
    exact Heap.get?_push_size _ rfl
def tRange2 (ta : TA) : TI := fun σ H R => ta σ H fun vs H1 => ∃ i j : Int, vs = [.int i, .int j] ∧ R (Itr i (j - i).toNat) H1
theorem pi_range2A {X : Cx} {tg a b : Expr} {ta : TA} {p pos : Pos} (hg : Gl X "range") (hm : X.mg "range" = none) (ha : PA X [a, b] ta) (hs : starEach [a, b] X.env = [(false, eval a X.env), (false, eval b X.env)] := by rfl) (hs2 : starEach [b] X.env = [(false, eval b X.env)] := by rfl) :
    PI X tg (.Call (.Name "range" p) [a, b] [] pos) (tRange2 ta) := by
  refine ⟨fun pins s σ H R I h => ?_⟩
  refine Call_ (ld_blt I hg hm boot_range (PyProof.Rows.callWith_type1 (thn (ha.run pos pins s σ H _ I h) fun us s1 ⟨vs, H1, I1, r1, q1⟩ => ?_) (by rw [hs, hs2]) (by rw [hs2]; rfl)))
  obtain ⟨i, j, rfl, q⟩ := q1
  obtain ⟨u, w', rfl, ⟨t, rfl⟩, ⟨t', rfl⟩⟩ := vals2 r1
  exact call_range_2 (range_any I1 q)
def iRange (f g : PTE) : PTI := fun E ρ S R => f E ρ S fun x S1 => g E ρ S1 fun y S2 => match x, y with
  | .int i, .int j => R ⟨(List.range (j - i).toNat).map fun (k : Nat) => PV.int (i + k), fun _ => True⟩ S2
  | _, _ => False
instance {f g : PTE} [MoE f] [MoE g] : MoI (iRange f g) := ⟨fun h q => MoE.mo (f := f) (fun x _ q => MoE.mo (f := g) (fun y _ q => by cases x <;> cases y <;> first | exact q.elim | exact h _ _ q) q) q⟩
theorem qi_range {bk : BagKind} {X : Cx} {tg a b : Expr} {p pos : Pos} {h h2 : PTE} (hg : Gl X "range") (hm : X.mg "range" = none) (ha : QE bk X a h) (hb : QE bk X b h2)
    (hs : starEach [a, b] X.env = [(false, eval a X.env), (false, eval b X.env)] := by rfl) (hs2 : starEach [b] X.env = [(false, eval b X.env)] := by rfl) (he : starEach [a, b] X.env = (false, eval a X.env) :: starEach [b] X.env := by rfl) (he2 : starEach (b :: []) X.env = (false, eval b X.env) :: starEach [] X.env := by rfl) :
    QI bk X tg (.Call (.Name "range" p) [a, b] [] pos) (iRange h h2) := by
  obtain ⟨ta, pa, wa⟩ := ha.ex
  obtain ⟨tb, pb, wb⟩ := hb.ex
  refine ⟨_, pi_range2A hg hm (pa_cons pa (pa_cons pb pa_nil he2) he) hs hs2, fun E M ρ S σ H R R' rel q k => ?_⟩
  refine wa E M ρ S σ H _ _ rel q fun M1 S1 H1 x v t1 s1 r1 q1 => ?_
  refine wb E M1 ρ S1 σ H1 _ _ (rel.step t1 s1) q1 fun M2 S2 H2 y w t2 s2 r2 q2 => ?_
  cases x <;> cases y <;> first | exact q2.elim | skip
  obtain rfl := rp_int r1
  obtain rfl := rp_int r2
  exact ⟨_, _, rfl, k M2 S2 H2 _ _ (t1.trans t2) s2 itok_range q2⟩
end L2.P3
namespace L2.P3
open PySem PySem.Spec PyProof.Rows

/-! ### tools for the plain side -/
theorem v_get (i : Nat) (E : XW) (ρ : PEnv) (S : Store) (Q : PQ) (x : PV) (h : ρ[i]? = some (some x)) : pVar i E ρ S Q = Q x S := by unfold pVar; rw [h]
theorem atI_z {α : Type} {x : α} {xs : List α} : atI (x :: xs) 0 = some x := by unfold atI ixN; simp
theorem atI_get? {α : Type} {xs : List α} {i : Int} (h : 0 ≤ i) : atI xs i = xs[i.toNat]? := by
  unfold atI ixN
  rw [if_pos h]
  by_cases hm : i < xs.length
  · rw [if_pos hm]; rfl
  · rw [if_neg hm]
    exact (List.getElem?_eq_none (by omega)).symm
theorem atI_1 {α : Type} {x y : α} {xs : List α} : atI (x :: y :: xs) 1 = some y := by rw [atI_get? (by decide)]; rfl
theorem atI_2 {α : Type} {x y z : α} {xs : List α} : atI (x :: y :: z :: xs) 2 = some z := by rw [atI_get? (by decide)]; rfl
theorem atI_3 {α : Type} {x y z a : α} {xs : List α} : atI (x :: y :: z :: a :: xs) 3 = some a := by rw [atI_get? (by decide)]; rfl
theorem atI_4 {α : Type} {x y z a b : α} {xs : List α} : atI (x :: y :: z :: a :: b :: xs) 4 = some b := by rw [atI_get? (by decide)]; rfl
theorem atI_5 {α : Type} {x y z a b c : α} {xs : List α} : atI (x :: y :: z :: a :: b :: c :: xs) 5 = some c := by rw [atI_get? (by decide)]; rfl
theorem atI_6 {α : Type} {x y z a b c d : α} {xs : List α} : atI (x :: y :: z :: a :: b :: c :: d :: xs) 6 = some d := by rw [atI_get? (by decide)]; rfl
theorem setI_0 {x v : PV} {xs : List PV} : setI (x :: xs) 0 v = some (v :: xs) := by unfold setI ixN; simp
theorem setI_get? {xs : List PV} {i : Int} {v : PV} (h : 0 ≤ i) (h2 : i < xs.length) : setI xs i v = some (xs.set i.toNat v) := by unfold setI ixN; simp [h, h2]
theorem setI_1 {x y v : PV} {xs : List PV} : setI (x :: y :: xs) 1 v = some (x :: v :: xs) := by rw [setI_get? (by decide) (by simp; omega)]; rfl
theorem setI_2 {x y z v : PV} {xs : List PV} : setI (x :: y :: z :: xs) 2 v = some (x :: y :: v :: xs) := by rw [setI_get? (by decide) (by simp; omega)]; rfl
theorem setI_3 {x y z a v : PV} {xs : List PV} : setI (x :: y :: z :: a :: xs) 3 v = some (x :: y :: z :: v :: xs) := by rw [setI_get? (by decide) (by simp; omega)]; rfl
theorem setI_4 {x y z a b v : PV} {xs : List PV} : setI (x :: y :: z :: a :: b :: xs) 4 v = some (x :: y :: z :: a :: v :: xs) := by rw [setI_get? (by decide) (by simp; omega)]; rfl
theorem setI_5 {x y z a b c v : PV} {xs : List PV} : setI (x :: y :: z :: a :: b :: c :: xs) 5 v = some (x :: y :: z :: a :: b :: v :: xs) := by rw [setI_get? (by decide) (by simp; omega)]; rfl
/-- one turn of a comprehension -/
def lcStep (g : PTG) (tt : PTT) (te : PTE) (E : XW) (ρ0 : PEnv) (x : PV) (S : Store) (Qk : Option PV → Store → Prop) : Prop :=
  g E x ρ0 S fun ρ1 S1 => tt E ρ1 S1 fun b S2 => Br b (te E ρ1 S2 fun y S3 => Qk (some y) S3) (Qk none S2)
/-- a comprehension whose parts leave the store as it is -/
theorem pLcL_pure {chk : Store → Prop} {g : PTG} {tt : PTT} {te : PTE} {E : XW} {ρ0 : PEnv} {Q : PQ} {S : Store} (f : PV → Option PV) (hc : ∀ acc, chk (S ++ [acc])) :
    ∀ (xs : List PV) (acc : List PV), (∀ x ∈ xs, ∀ acc Qk, Qk (f x) (S ++ [acc]) → lcStep g tt te E ρ0 x (S ++ [acc]) Qk) → acc.length + xs.length ≤ 16777216 → Q (.lst S.length) (S ++ [acc ++ xs.filterMap f]) →
      pLcL chk g tt te E ρ0 S.length Q xs (S ++ [acc])
  | [], acc, _, _, q => ⟨hc acc, by simpa using q⟩
  | x :: xs, acc, h, hl, q => by
    refine ⟨hc acc, h x List.mem_cons_self acc (fun o S' => match o with
      | some y => onO S'[S.length]? fun a => a.length < 16777216 ∧ pLcL chk g tt te E ρ0 S.length Q xs (S'.set S.length (a ++ [y]))
      | none => pLcL chk g tt te E ρ0 S.length Q xs S') ?_⟩
    simp only [List.length_cons] at hl
    cases e : f x with
    | none =>
      rw [List.filterMap_cons_none e] at q
      exact pLcL_pure f hc xs acc (fun y hy => h y (List.mem_cons_of_mem _ hy)) (by omega) q
    | some y =>
      rw [List.filterMap_cons_some e] at q
      refine onO_of (x := acc) (by simp) ⟨by omega, ?_⟩
      have e2 : (S ++ [acc]).set S.length (acc ++ [y]) = S ++ [acc ++ [y]] := by simp
      rw [e2]
      exact pLcL_pure f hc xs (acc ++ [y]) (fun z hz => h z (List.mem_cons_of_mem _ hz)) (by simp; omega) (by simpa using q)
/-- a for loop by what holds between its turns -/
theorem pForL_inv {chk : Store → Prop} {g : PTG} {b : PTS} [MoG g] [MoS b] {E : XW} {D : PEnds} (I : Nat → PEnv → Store → Prop) :
    ∀ (xs : List PV) (k : Nat) {ρ : PEnv} {S : Store}, I k ρ S → (∀ j ρ S, I j ρ S → chk S) → (∀ j x ρ S, xs[j]? = some x → I (k + j) ρ S → g E x ρ S fun ρ1 S1 => b E { D with nx := I (k + j + 1), ct := I (k + j + 1), bk := D.nx } ρ1 S1) →
      (∀ ρ S, I (k + xs.length) ρ S → D.nx ρ S) → pForL chk g b E D xs ρ S
  | [], k, ρ, S, h0, hc, _, hd => ⟨hc _ _ _ h0, hd _ _ h0⟩
  | x :: xs, k, ρ, S, h0, hc, hs, hd => by
    refine ⟨hc _ _ _ h0, MoG.mo (g := g) (fun ρ1 S1 q => ?_) (hs 0 x ρ S rfl h0)⟩
    refine MoS.mo (f := b) ?_ q
    have nxt : ∀ ρ S, I (k + 0 + 1) ρ S → pForL chk g b E D xs ρ S := fun ρ S h => by
      have e1 : ∀ j, k + (j + 1) = k + 1 + j := fun j => by omega
      refine pForL_inv I xs (k + 1) h hc (fun j y ρ S e hI => ?_) (fun ρ S h => ?_)
      · have := hs (j + 1) y ρ S (by simpa using e) (by rw [e1]; exact hI)
        rw [e1] at this
        exact this
      · refine hd ρ S ?_
        rw [List.length_cons, e1]
        exact h
    exact ⟨nxt, fun _ _ z => z, fun _ _ z => z, nxt⟩

/-! ### draws -/
def F_draw : PF0 := fun xs Q => match xs with
  | [.bag, .int m] => (0 < m ∧ m ≤ 1000000000000000000000000000000000000000000000000000000000000000000000000000000000000000000000000000000000000000000000000) ∧ ∀ r, 0 ≤ r → r < m → Q (.int r)
  | _ => False
instance : Mo0 F_draw := ⟨fun h q => by
  unfold F_draw at q ⊢
  split at q
  · exact ⟨q.1, fun r h0 h1 => h _ (q.2 r h0 h1)⟩
  · exact q.elim⟩
end L2.P3
namespace L2.P3
open PySem PySem.Spec PyProof.Rows
theorem pForL_range {g : PTG} {b : PTS} [MoG g] [MoS b] {E : XW} {D : PEnds} {n : Nat} {f : Nat → PV} {ρ : PEnv} {S : Store} (I : Nat → PEnv → Store → Prop) (h0 : I 0 ρ S)
    (hs : ∀ j ρ S, j < n → I j ρ S → g E (f j) ρ S fun ρ1 S1 => b E { D with nx := I (j + 1), ct := I (j + 1), bk := D.nx } ρ1 S1) (hd : ∀ ρ S, I n ρ S → D.nx ρ S) :
    pForL (fun _ => True) g b E D ((List.range n).map f) ρ S := by
  refine pForL_inv I _ 0 h0 (fun _ _ _ _ => trivial) (fun j x ρ S e hI => ?_) (fun ρ S h => hd ρ S (by simpa using h))
  rw [Nat.zero_add] at hI ⊢
  have hj : j < n := by
    have := (List.getElem?_eq_some_iff.mp e).1
    simpa using this
  have e2 : f j = x := by simpa [hj] using e
  rw [← e2]
  exact hs j ρ S hj hI
/-- a list, each of whose items a loop meets -/
theorem pForL_mem {chk : Store → Prop} {g : PTG} {b : PTS} [MoG g] [MoS b] {E : XW} {D : PEnds} {xs : List PV} {ρ : PEnv} {S : Store} (I : PEnv → Store → Prop) (h0 : I ρ S) (hc : ∀ ρ S, I ρ S → chk S)
    (hs : ∀ x ρ S, x ∈ xs → I ρ S → g E x ρ S fun ρ1 S1 => b E { D with nx := I, ct := I, bk := D.nx } ρ1 S1) (hd : ∀ ρ S, I ρ S → D.nx ρ S) : pForL chk g b E D xs ρ S :=
  pForL_inv (fun _ => I) xs 0 h0 (fun _ => hc) (fun _ x ρ S e hI => hs x ρ S (List.mem_of_getElem? e) hI) hd
end L2.P3
namespace L2.P3
open PySem PySem.Spec PyProof.Rows
mutual
/-- data of a depth: no lists; texts where st tells so -/
def dat (st : Bool) : Nat → PV → Bool
  | _, .non => true
  | _, .bl _ => true
  | _, .int _ => true
  | _, .str x => st && decide (x.length ≤ 16777216)
  | n + 1, .tup xs => decide (xs.length ≤ 16777216) && dats st n xs
  | _, _ => false
def dats (st : Bool) : Nat → List PV → Bool
  | _, [] => true
  | n, x :: xs => dat st n x && dats st n xs
end
theorem dats_mem {st : Bool} : ∀ {n : Nat} {xs : List PV}, dats st n xs = true ↔ ∀ x ∈ xs, dat st n x = true
  | n, [] => by simp [dats]
  | n, x :: xs => by simp [dats, dats_mem (n := n) (xs := xs)]
mutual
theorem dat_below {st : Bool} : ∀ {n : Nat} {x : PV}, dat st n x = true → below 0 x = true
  | n, .non, _ => rfl
  | n, .bl _, _ => rfl
  | n, .int _, _ => rfl
  | n, .str _, _ => rfl
  | n + 1, .tup xs, h => by
    simp only [dat, Bool.and_eq_true] at h
    unfold below
    exact dats_below h.2
  | 0, .tup xs, h => by simp [dat] at h
  | n, .lst _, h => by cases n <;> simp [dat] at h
  | n, .rol _, h => by cases n <;> simp [dat] at h
  | n, .bag, h => by cases n <;> simp [dat] at h
theorem dats_below {st : Bool} : ∀ {n : Nat} {xs : List PV}, dats st n xs = true → belows 0 xs = true
  | n, [], _ => rfl
  | n, x :: xs, h => by
    simp only [dats, Bool.and_eq_true] at h
    simp only [belows, Bool.and_eq_true]
    exact ⟨dat_below h.1, dats_below h.2⟩
end
/-- the law's own ==, asked of two that are the same -/
def F_same (st : Bool) (d : Nat) : PF0 := fun xs Q => match xs with
  | [a, b] => a = b ∧ dat st d a = true ∧ Q (.bl true)
  | _ => False
instance {st : Bool} {d : Nat} : Mo0 (F_same st d) := ⟨fun h q => by
  unfold F_same at q ⊢
  split at q
  · exact ⟨q.1, q.2.1, h _ q.2.2⟩
  · exact q.elim⟩
end L2.P3
namespace L2.P3
open PySem PySem.Spec PyProof.Rows
theorem s_seq {f g : PTS} [MoS f] {E : XW} {D : PEnds} {ρ : PEnv} {S : Store} (I : PEnv → Store → Prop) (h1 : f E { D with nx := I } ρ S) (h2 : ∀ ρ S, I ρ S → g E D ρ S) : pSeq f g E D ρ S := by
  unfold pSeq
  refine MoS.mo (f := f) ?_ h1
  exact ⟨h2, fun _ _ z => z, fun _ _ z => z, fun _ _ z => z⟩
theorem divOk_of {m : Int} (h0 : 0 < m) (h : m < 2 ^ 8000) : DivOk m := by
  refine ⟨by omega, ?_⟩
  have : m.natAbs < 2 ^ 8000 := by omega
  have := PySem.Flt.log2_lt_of (by decide) this
  omega
theorem mulOk_r {i j : Int} (h1 : -(2 ^ 64) < j) (h2 : j < 2 ^ 64) : MulOk i j := .of_right (intBits_le_64 h1 h2)
theorem mulOk_l {i j : Int} (h1 : -(2 ^ 64) < i) (h2 : i < 2 ^ 64) : MulOk i j := .of_left (intBits_le_64 h1 h2)
theorem at_ints {cells : List Int} {i : Int} (h : 0 ≤ i) (h2 : i < cells.length) : ∃ z : Int, atI (cells.map PV.int) i = some (.int z) := by
  refine ⟨cells[i.toNat]'(by omega), ?_⟩
  rw [atI_get? h]; simp
theorem fmod_in (x : Int) {m : Int} (hm : 0 < m) : 0 ≤ x.fmod m ∧ x.fmod m < m := by
  rw [Int.fmod_eq_emod_of_nonneg x (by omega)]
  exact ⟨Int.emod_nonneg x (by omega), Int.emod_lt_of_pos x hm⟩
end L2.P3
namespace L2.P3
open PySem PySem.Spec PyProof.Rows
/-- the bag's own lists as a store -/
abbrev ownAm (own : List Addr) : Am := ⟨own, none, own.map fun _ => Kd.lst⟩
section
variable {P : Program} {w : World} {K : PySem.W.Frag} {mg : Str → Option Value} {base : Heap} {bk : BagKind} {k : Nat} {f : Addr} {fd : FuncData} {ps : List Str}
/-- the maker of the bag, by its plain run -/
theorem bag_of {F : PFS} {good : PV → Store → Prop} (G : FnOk P w K mg base CX0 k f fd ["script"] (spS bk K F)) (h : ∀ (ns : List Int) (Q : PQ), ns.length ≤ 63 → (∀ r S', good r S' → Q r S') → F [.rol (ns.map PV.int)] [] Q)
    (hg : ∀ M' S' H' r v, M'.bag = none → Sto K bk M' S' H' → Rp K bk.root M' H' r v → good r S' → ∃ own a', v = .ref a' ∧ BagOk bk H' (some own) ∧ own[bk.root]? = some a') : FnOk P w K mg base CX0 k f fd ["script"] (spBag bk K) :=
  G.imp fun vs H Q E ⟨a, ns, e, fz, hl, tb, q⟩ => by
    subst e
    refine ⟨⟨[], none, []⟩, [], [.rol (ns.map PV.int)], ⟨⟨rfl, rfl, List.nodup_nil, fun n xs e => by simp at e⟩, trivial, fun b h => by simp at h, tb⟩, .cons (by rw [Rp]; exact ⟨a, _, rfl, fz, rps_of_ints ns⟩) .nil, h ns _ hl ?_⟩
    intro r S' gd M' H' v t s' r'
    obtain ⟨own, a', rfl, bag, root⟩ := hg M' S' H' r v t.bag s' r' gd
    exact q H' own a' (fun b x nt e => t.keep b x (by simp) (by simp [own?]) nt e) t.tab bag root
/-- a draw, by its plain run over the bag's own lists -/
theorem draw_of {X : PFS} (good : Store → Prop) (G : FnOk P w K mg base CX0 k f fd ps (spS bk K X))
    (dec : ∀ own cs, bk.shape own cs → cs.length = own.length → ∃ S, good S ∧ S.length = own.length ∧ ∀ (n : Nat) (xs : List PV), S[n]? = some xs → ∃ c : List V, cs[n]? = some c ∧ ∀ H, Rps K bk.root (ownAm own) H xs c)
    (enc : ∀ (own : List Addr) S, good S → S.length = own.length → ∃ cs : List (List V), bk.shape own cs ∧ cs.length = own.length ∧ ∀ (n : Nat) (xs : List PV) (c : List V) (H : Hp), S[n]? = some xs → Rps K bk.root (ownAm own) H xs c → cs[n]? = some c)
    (h : ∀ S (m : Int) (Q : PQ), good S → 0 < m → m < 2 ^ 8000 → (∀ r S', 0 ≤ r → r < m → good S' → S'.length = S.length → Q (.int r) S') → X [.lst bk.root, .int m] S Q) : FnOk P w K mg base CX0 k f fd ps (sp0 bk K F_draw) :=
  G.imp fun vs H Q E ⟨bag, xs, s, r, q⟩ => by
    unfold F_draw at q
    split at q
    case h_2 => exact q.elim
    rename_i m
    obtain ⟨v, u, rfl, r1, r2⟩ := rps2 r
    obtain rfl := rp_int r2
    rw [Rp] at r1
    obtain ⟨own, a, e1, e2, rfl⟩ := r1
    simp only at e1
    subst e1
    obtain ⟨nd, lt, cs, sh, hl, at_⟩ := s.bag
    obtain ⟨S, gd, hS, hd⟩ := dec own cs sh hl
    refine ⟨ownAm own, S, [.lst bk.root, .int m], ⟨⟨hS.symm, by simp [hS], nd, fun n xs en => ?_⟩, trivial, fun b hb => by simp [own?], s.tabs⟩, .cons (to_lst ⟨e2, by simp [List.getElem?_map, e2]⟩) (.cons to_int .nil), h S m _ gd q.1.1 (Int.lt_of_le_of_lt q.1.2 (by decide +kernel)) ?_⟩
    · have hn : n < own.length := by rw [← hS]; exact (List.getElem?_eq_some_iff.mp en).1
      obtain ⟨c, ec, rc⟩ := hd n xs en
      obtain ⟨c', ec', hH⟩ := at_ n own[n] (List.getElem?_eq_getElem hn)
      rw [ec] at ec'
      obtain rfl := Option.some.inj ec'
      exact ⟨own[n], .lst, _, List.getElem?_eq_getElem hn, by simp [hn], hH, c, rfl, rc H⟩
    · intro x S' h0 h1 gd' hl' M' H' v t s' r'
      obtain ⟨l, el⟩ := t.pre
      have hl0 : l = [] := by
        have := s'.st.len
        rw [el, hl', hS] at this
        simpa using this
      rw [hl0, List.append_nil] at el
      obtain ⟨lk, ek⟩ := t.prek
      have hk0 : lk = [] := by
        have := s'.st.lenk
        rw [ek, hl', hS] at this
        simpa using this
      rw [hk0, List.append_nil] at ek
      have eM : M' = ownAm own := by
        cases M'
        have e3 := t.bag
        simp only at el e3 ek
        rw [el, e3, ek]
      subst eM
      obtain ⟨cs', sh', hlc, hc⟩ := enc own S' gd' (hl'.trans hS)
      have bag' : BagOk bk H' (some own) := by
        refine ⟨nd, lt, cs', sh', hlc, fun n b eb => ?_⟩
        have hn : n < S'.length := by rw [hl', hS]; exact (List.getElem?_eq_some_iff.mp eb).1
        obtain ⟨c, e5, e6⟩ := s'.lst (n := n) (a := b) ⟨eb, by show (own.map fun _ => Kd.lst)[n]? = _; rw [List.getElem?_map, eb]; rfl⟩ (List.getElem?_eq_getElem hn)
        exact ⟨c, hc n _ c H' (List.getElem?_eq_getElem hn) e6, e5⟩
      refine q.2 x h0 h1 H' v ⟨⟨[], by simp⟩, ⟨[], by simp⟩, rfl, fun b y _ hb nt e => t.keep b y hb (by simp [own?]) nt e, t.tab, t.live, fun b h => by simp at h⟩ ⟨⟨rfl, rfl, List.nodup_nil, fun n xs e => by simp at e⟩, bag', fun b h => by simp at h, s'.tabs⟩ ?_
      rw [rp_int r']; exact to_int
end
end L2.P3
namespace L2.P3
open PySem PySem.Spec PyProof.Rows
/-! ### sizes -/
def Sz (n : Nat) (x : Int) : Prop := x.natAbs < 2 ^ n
theorem Sz.mono {a b : Nat} {x : Int} (h : Sz a x) (l : a ≤ b) : Sz b x := Nat.lt_of_lt_of_le h (Nat.pow_le_pow_right (by decide) l)
theorem Sz.mul {a b : Nat} {i j : Int} (h : Sz a i) (h' : Sz b j) : Sz (a + b) (i * j) := wide_lt h h'
theorem two_pow_succ' (n : Nat) : 2 ^ (n + 1) = 2 ^ n + 2 ^ n := by rw [Nat.pow_succ]; omega
theorem Sz.add {a b c : Nat} {i j : Int} (h : Sz a i) (h' : Sz b j) (l1 : a ≤ c) (l2 : b ≤ c) : Sz (c + 1) (i + j) := by
  have h1 := h.mono l1
  have h2 := h'.mono l2
  unfold Sz at *
  rw [two_pow_succ']
  omega
theorem Sz.sub {a b c : Nat} {i j : Int} (h : Sz a i) (h' : Sz b j) (l1 : a ≤ c) (l2 : b ≤ c) : Sz (c + 1) (i - j) := by
  have h1 := h.mono l1
  have h2 := h'.mono l2
  unfold Sz at *
  rw [two_pow_succ']
  omega
theorem Sz.neg {a : Nat} {i : Int} (h : Sz a i) : Sz a (-i) := by unfold Sz at *; omega
theorem sz_pos (n : Nat) : 0 < 2 ^ n := Nat.pow_pos (by decide)
theorem mulOk_sz {a b : Nat} {i j : Int} (h : Sz a i) (h' : Sz b j) (l : a + b ≤ 900000) : MulOk i j :=
  (wide_mul (a := a + 1) (b := b + 1) (h.mono (Nat.le_succ a)) (h'.mono (Nat.le_succ b)) (Nat.succ_pos a) (Nat.succ_pos b) (by omega)).ok
theorem divOk_sz {a : Nat} {j : Int} (h : Sz a j) (l : a ≤ 8999) (h0 : j ≠ 0) : DivOk j := by
  have : j.natAbs < 2 ^ (a + 1) := h.mono (Nat.le_succ a)
  exact ⟨h0, Nat.lt_of_lt_of_le (PySem.Flt.log2_lt_of (Nat.succ_pos a) this) (by omega)⟩
theorem sz_pow10 (k : Nat) : Sz (4 * k + 1) ((10 : Int) ^ k) := by
  unfold Sz
  have h : (10 : Int) ^ k = ((10 ^ k : Nat) : Int) := by norm_cast
  rw [h, Int.natAbs_natCast]
  have h2 : 10 ^ k ≤ 16 ^ k := Nat.pow_le_pow_left (by decide) k
  have h3 : (16 : Nat) ^ k = 2 ^ (4 * k) := by rw [Nat.pow_mul]
  rw [two_pow_succ', ← h3]
  have := Nat.pow_pos (n := k) (show 0 < 16 by decide)
  omega
theorem sz_le {n : Nat} {x b : Int} (h0 : -b ≤ x) (h1 : x ≤ b) (hb : b.natAbs < 2 ^ n) : Sz n x := by
  unfold Sz
  omega
theorem pow10_pos (k : Nat) : (0 : Int) < 10 ^ k := Int.pow_pos (by decide)
theorem Sz.ediv {a : Nat} {i j : Int} (h : Sz a i) : Sz a (i / j) := Nat.lt_of_le_of_lt (Int.natAbs_ediv_le_natAbs i j) h
theorem fdiv_pos (i : Int) {j : Int} (h : 0 < j) : i.fdiv j = i / j := Int.fdiv_eq_ediv_of_nonneg i (Int.le_of_lt h)
theorem fmod_pos (i : Int) {j : Int} (h : 0 < j) : i.fmod j = i % j := Int.fmod_eq_emod_of_nonneg i (Int.le_of_lt h)
theorem pow10_le {a b : Nat} (h : a ≤ b) : (10 : Int) ^ a ≤ 10 ^ b := by
  have e : ∀ k : Nat, (10 : Int) ^ k = ((10 ^ k : Nat) : Int) := fun k => by norm_cast
  rw [e, e]
  exact Int.ofNat_le.mpr (Nat.pow_le_pow_right (by decide) h)
/-! ### a tuple made of a comprehension -/
theorem tup_lc {i : PTI} {g : PTG} {tt : PTT} {te : PTE} {ws : List Nat} {E : XW} {ρ : PEnv} {S : Store} {Q : PQ} (f : PV → Option PV) (items : List PV) (chk : Store → Prop) (hc : ∀ acc, chk (S ++ [acc]))
    (hi : ∀ R : PIter → Store → Prop, R ⟨items, chk⟩ S → i E ρ S R) (hs : ∀ x ∈ items, ∀ acc Qk, Qk (f x) (S ++ [acc]) → lcStep g tt te E (wipeP ρ ws) x (S ++ [acc]) Qk) (hl : items.length ≤ 16777216)
    (hb : belows S.length (items.filterMap f) = true) (q : Q (.tup (items.filterMap f)) S) : pScope (pCl oTuple (pACons (pLc i g tt te ws) pANil)) E ρ S Q := by
  refine hi _ ?_
  refine pLcL_pure f hc items [] hs (by simpa using hl) ?_
  refine onO_of (x := items.filterMap f) (by simp) ⟨?_, ⟨[items.filterMap f], by simp⟩, q⟩
  unfold below; exact hb
theorem fm_ints (f : PV → Option PV) (g : Int → PV) (h : ∀ i, f (.int i) = some (g i)) : ∀ ns : List Int, (ns.map PV.int).filterMap f = ns.map g
  | [] => rfl
  | n :: ns => by rw [List.map_cons, List.filterMap_cons_some (h n), fm_ints f g h ns]; rfl
theorem belows_mem : ∀ {n : Nat} {xs : List PV}, belows n xs = true ↔ ∀ x ∈ xs, below n x = true
  | n, [] => by simp [belows]
  | n, x :: xs => by simp [belows, belows_mem (n := n) (xs := xs)]
end L2.P3
namespace L2.P3
open PySem PySem.Spec PyProof.Rows
/-! ### fractions in lowest terms -/
def fr (x : Rat) : PV := .tup [.int x.num, .int (x.den : Int)]
def RS (n : Nat) (x : Rat) : Prop := Sz n x.num ∧ Sz n (x.den : Int)
theorem RS.mono {a b : Nat} {x : Rat} (h : RS a x) (l : a ≤ b) : RS b x := ⟨h.1.mono l, h.2.mono l⟩
theorem den_pos' (x : Rat) : (0 : Int) < x.den := Int.natCast_pos.mpr x.den_pos
theorem frac_pos {a b : Int} (h : 0 < b) : a / ((Int.gcd a b : Nat) : Int) = (Rat.divInt a b).num ∧ b / ((Int.gcd a b : Nat) : Int) = ((Rat.divInt a b).den : Int) := by
  rw [Rat.num_divInt, Rat.den_divInt, if_neg (by omega), Int.sign_eq_one_of_pos h, Int.one_mul, Int.gcd_comm]
  refine ⟨rfl, ?_⟩
  rw [Int.natCast_ediv, Int.natAbs_of_nonneg (Int.le_of_lt h)]
theorem frac_neg {a b : Int} (h : b < 0) : a.fdiv (-((Int.gcd a b : Nat) : Int)) = (Rat.divInt a b).num ∧ b.fdiv (-((Int.gcd a b : Nat) : Int)) = ((Rat.divInt a b).den : Int) := by
  have hg : 0 < ((Int.gcd a b : Nat) : Int) := Int.natCast_pos.mpr (Int.gcd_pos_iff.mpr (.inr (by omega)))
  have e : ∀ x : Int, x.fdiv (-((Int.gcd a b : Nat) : Int)) = (-x) / ((Int.gcd a b : Nat) : Int) := fun x => by
    have := Int.neg_fdiv_neg (-x) ((Int.gcd a b : Nat) : Int)
    rw [Int.neg_neg] at this
    rw [this, fdiv_pos _ hg]
  rw [e, e, Rat.num_divInt, Rat.den_divInt, if_neg (by omega), Int.sign_eq_neg_one_of_neg h, Int.gcd_comm a b]
  refine ⟨by rw [Int.neg_one_mul], ?_⟩
  rw [Int.natCast_ediv, Int.ofNat_natAbs_of_nonpos (Int.le_of_lt h)]
theorem frac_neg0 {a b : Int} (h : b < 0) : a.fdiv (0 - ((Int.gcd a b : Nat) : Int)) = (Rat.divInt a b).num ∧ b.fdiv (0 - ((Int.gcd a b : Nat) : Int)) = ((Rat.divInt a b).den : Int) := by
  rw [Int.zero_sub]; exact frac_neg h
theorem gcd_pos' {a b : Int} (h : b ≠ 0) : 0 < ((Int.gcd a b : Nat) : Int) := Int.natCast_pos.mpr (Int.gcd_pos_iff.mpr (.inr h))
theorem sz_gcd {a b : Int} {n : Nat} (h : b ≠ 0) (s : Sz n b) : Sz n ((Int.gcd a b : Nat) : Int) := by
  unfold Sz at *
  rw [Int.natAbs_natCast]
  have : Int.gcd a b ≤ b.natAbs := Nat.le_of_dvd (by omega) (Nat.gcd_dvd_right _ _)
  omega
theorem sz_divInt_num {a b : Int} {n : Nat} (s : Sz n a) : Sz n (Rat.divInt a b).num := by
  rw [Rat.num_divInt]
  refine Sz.ediv ?_
  rcases Int.lt_trichotomy b 0 with h | h | h
  · rw [Int.sign_eq_neg_one_of_neg h, Int.neg_one_mul]; exact s.neg
  · subst h; simp only [Int.sign_zero, Int.zero_mul]; exact sz_pos n
  · rw [Int.sign_eq_one_of_pos h, Int.one_mul]; exact s
theorem sz_divInt_den {a b : Int} {n : Nat} (hb : b ≠ 0) (s : Sz n b) : Sz n ((Rat.divInt a b).den : Int) := by
  rw [Rat.den_divInt, if_neg hb]
  unfold Sz at *
  rw [Int.natAbs_natCast]
  exact Nat.lt_of_le_of_lt (Nat.div_le_self _ _) s
theorem rs_divInt {a b : Int} {n : Nat} (hb : b ≠ 0) (s1 : Sz n a) (s2 : Sz n b) : RS n (Rat.divInt a b) := ⟨sz_divInt_num s1, sz_divInt_den hb s2⟩
theorem rat_add_eq (x y : Rat) : x + y = Rat.divInt (x.num * y.den + y.num * x.den) (x.den * y.den) := by
  have h := Rat.divInt_add_divInt x.num y.num (d₁ := x.den) (d₂ := y.den) (by have := den_pos' x; omega) (by have := den_pos' y; omega)
  rw [Rat.num_divInt_den, Rat.num_divInt_den] at h
  exact h
theorem rat_sub_eq (x y : Rat) : x - y = Rat.divInt (x.num * y.den - y.num * x.den) (x.den * y.den) := by
  have h := Rat.divInt_sub_divInt x.num y.num (d₁ := x.den) (d₂ := y.den) (by have := den_pos' x; omega) (by have := den_pos' y; omega)
  rw [Rat.num_divInt_den, Rat.num_divInt_den] at h
  exact h
theorem rat_mul_eq (x y : Rat) : x * y = Rat.divInt (x.num * y.num) (x.den * y.den) := by
  have h := Rat.divInt_mul_divInt x.num y.num (d₁ := x.den) (d₂ := y.den)
  rw [Rat.num_divInt_den, Rat.num_divInt_den] at h
  exact h
theorem rat_div_eq (x y : Rat) : x / y = Rat.divInt (x.num * y.den) (x.den * y.num) := by
  rw [Rat.div_def, Rat.inv_def]
  have h := Rat.divInt_mul_divInt x.num y.den (d₁ := x.den) (d₂ := y.num)
  rw [Rat.num_divInt_den] at h
  exact h
theorem rs_nums {a b : Nat} {x y : Rat} (hx : RS a x) (hy : RS b y) : Sz (a + b) (x.den * y.den) ∧ Sz (a + b) (x.num * y.num) ∧ Sz (a + b) (x.num * y.den) ∧ Sz (a + b) (y.num * x.den) ∧ Sz (a + b) (x.den * y.num) :=
  ⟨hx.2.mul hy.2, hx.1.mul hy.1, hx.1.mul hy.2, by rw [Nat.add_comm]; exact hy.1.mul hx.2, hx.2.mul hy.1⟩
theorem RS.add {a b : Nat} {x y : Rat} (hx : RS a x) (hy : RS b y) : RS (a + b + 1) (x + y) := by
  have h := rs_nums hx hy
  rw [rat_add_eq]
  exact rs_divInt (Int.ne_of_gt (Int.mul_pos (den_pos' x) (den_pos' y))) (h.2.2.1.add h.2.2.2.1 (Nat.le_refl _) (Nat.le_refl _)) (h.1.mono (Nat.le_succ _))
theorem RS.sub {a b : Nat} {x y : Rat} (hx : RS a x) (hy : RS b y) : RS (a + b + 1) (x - y) := by
  have h := rs_nums hx hy
  rw [rat_sub_eq]
  exact rs_divInt (Int.ne_of_gt (Int.mul_pos (den_pos' x) (den_pos' y))) (h.2.2.1.sub h.2.2.2.1 (Nat.le_refl _) (Nat.le_refl _)) (h.1.mono (Nat.le_succ _))
theorem RS.mul {a b : Nat} {x y : Rat} (hx : RS a x) (hy : RS b y) : RS (a + b) (x * y) := by
  have h := rs_nums hx hy
  rw [rat_mul_eq]
  exact rs_divInt (Int.ne_of_gt (Int.mul_pos (den_pos' x) (den_pos' y))) h.2.1 h.1
theorem num_ne {x : Rat} (h : x ≠ 0) : x.num ≠ 0 := fun e => h (Rat.num_eq_zero.mp e)
theorem RS.div {a b : Nat} {x y : Rat} (hx : RS a x) (hy : RS b y) (h0 : y ≠ 0) : RS (a + b) (x / y) := by
  have h := rs_nums hx hy
  rw [rat_div_eq]
  exact rs_divInt (Int.mul_ne_zero (Int.ne_of_gt (den_pos' x)) (num_ne h0)) h.2.2.1 h.2.2.2.2
theorem sz_one {n : Nat} (h : 1 ≤ n) : Sz n (1 : Int) := Sz.mono (a := 1) (by unfold Sz; decide) h
theorem rs_int {n : Nat} {i : Int} (h : Sz n i) (hn : 1 ≤ n) : RS n (i : Rat) := ⟨by rw [Rat.num_intCast]; exact h, by rw [Rat.den_intCast]; exact sz_one hn⟩
theorem fr_int (i : Int) : fr (i : Rat) = .tup [.int i, .int 1] := by
  unfold fr; rw [Rat.num_intCast, Rat.den_intCast]; rfl
theorem rs_neg {n : Nat} {x : Rat} (h : RS n x) : RS n (-x) := by
  refine ⟨?_, ?_⟩
  · rw [Rat.neg_num]; exact h.1.neg
  · rw [Rat.neg_den]; exact h.2
theorem mulOk_fr {a b : Nat} {x y : Rat} (hx : RS a x) (hy : RS b y) (h : a + b ≤ 900000) : MulOk x.num y.den ∧ MulOk y.num x.den ∧ MulOk x.den y.den ∧ MulOk x.num y.num ∧ MulOk x.den y.num :=
  ⟨mulOk_sz hx.1 hy.2 h, mulOk_sz hy.1 hx.2 (by omega), mulOk_sz hx.2 hy.2 h, mulOk_sz hx.1 hy.1 h, mulOk_sz hx.2 hy.1 h⟩
theorem dat_fr {st : Bool} {n : Nat} {x : Rat} : dat st (n + 1) (fr x) = true := by
  unfold fr dat
  rw [Bool.and_eq_true]
  exact ⟨rfl, by cases n <;> rfl⟩
theorem below_fr {n : Nat} {x : Rat} : below n (fr x) = true := rfl
theorem gcd_step {x y : Int} (hx : 0 ≤ x) (hy : 0 ≤ y) : Int.gcd y (x % y) = Int.gcd x y := by
  unfold Int.gcd
  rw [Int.natAbs_emod_of_nonneg hx, Nat.gcd_comm x.natAbs, Nat.gcd_rec y.natAbs x.natAbs, Nat.gcd_comm]
theorem euclid_half {x y : Nat} (hxy : y < x) (hy : 0 < y) : y * (x % y) * 2 ≤ x * y := by
  have e1 : 2 * (x % y) ≤ x := by
    have := Nat.mod_add_div x y
    have hm := Nat.mod_lt x hy
    have h3 : 1 ≤ x / y := Nat.div_pos (by omega) hy
    have : y * 1 ≤ y * (x / y) := Nat.mul_le_mul_left _ h3
    omega
  calc y * (x % y) * 2 = (2 * (x % y)) * y := by rw [Nat.mul_comm y, Nat.mul_comm (x % y * y) 2, ← Nat.mul_assoc]
    _ ≤ x * y := Nat.mul_le_mul_right _ e1
/-- how far Euclid's way has gone -/
def Eucl (B : Nat) (j x y : Nat) : Prop := (j = 0 ∧ y = B) ∨ (1 ≤ j ∧ y < x ∧ x * y * 2 ^ (j - 1) ≤ B * B)
theorem Eucl.next {B j x y : Nat} (h : Eucl B j x y) (hy : 0 < y) : Eucl B (j + 1) y (x % y) := by
  refine .inr ⟨by omega, Nat.mod_lt x hy, ?_⟩
  rcases h with ⟨rfl, rfl⟩ | ⟨h1, hxy, hp⟩
  · have := Nat.mod_lt x hy
    have : y * (x % y) ≤ y * y := Nat.mul_le_mul_left _ (by omega)
    simpa using this
  · have e2 : 2 ^ (j + 1 - 1) = 2 * 2 ^ (j - 1) := by
      have : j + 1 - 1 = (j - 1) + 1 := by omega
      rw [this, Nat.pow_succ, Nat.mul_comm]
    rw [e2, ← Nat.mul_assoc]
    exact Nat.le_trans (Nat.mul_le_mul_right _ (euclid_half hxy hy)) hp
theorem Eucl.done {B j x y n : Nat} (h : Eucl B j x y) (hb : B < 2 ^ n) (hj : 2 * n + 1 ≤ j) : y = 0 := by
  rcases h with ⟨h, _⟩ | ⟨_, hxy, hp⟩
  · omega
  · rcases Nat.eq_zero_or_pos y with h | h
    · exact h
    · exfalso
      have h1 : 1 ≤ x * y := Nat.mul_pos (by omega) h
      have h2 : 1 * 2 ^ (j - 1) ≤ x * y * 2 ^ (j - 1) := Nat.mul_le_mul_right _ h1
      have h3 : 2 ^ (2 * n) ≤ 2 ^ (j - 1) := Nat.pow_le_pow_right (by decide) (by omega)
      have h4 : B * B < 2 ^ n * 2 ^ n := Nat.mul_lt_mul_of_le_of_lt (Nat.le_of_lt hb) hb (Nat.pow_pos (by decide))
      have h5 : 2 ^ (2 * n) = 2 ^ n * 2 ^ n := by rw [← Nat.pow_add]; congr 1; omega
      omega
/-! ### draws -/
def AllIn (lo hi : Int) : List PV → Prop
  | [] => True
  | .int i :: xs => lo ≤ i ∧ i ≤ hi ∧ AllIn lo hi xs
  | _ => False
theorem AllIn.mem {lo hi : Int} : ∀ {xs : List PV}, AllIn lo hi xs → ∀ x ∈ xs, ∃ i, x = .int i ∧ lo ≤ i ∧ i ≤ hi
  | .int i :: xs, h, x, hx => by
    rcases List.mem_cons.mp hx with rfl | hx
    · exact ⟨i, rfl, h.1, h.2.1⟩
    · exact h.2.2.mem x hx
  | [], _, x, hx => by cases hx
theorem draw_spec (m : Int) (Q : PV → Prop) (h0 : 0 < m) (h1 : m ≤ 10 ^ 120) (q : ∀ r, 0 ≤ r → r < m → Q (.int r)) : F_draw [.bag, .int m] Q := ⟨⟨h0, Int.le_trans h1 (by decide)⟩, q⟩
theorem same_of {st : Bool} {d : Nat} {a b : PV} {Q : PV → Prop} (e : a = b) (h : dat st d a = true) (q : Q (.bl true)) : F_same st d [a, b] Q := ⟨e, h, q⟩
/-- a loop of multiplications by ten -/
theorem pow_succ' (j : Nat) : (10 : Int) * 10 ^ j = 10 ^ (j + 1) := by rw [Int.pow_succ, Int.mul_comm]
end L2.P3
namespace L2.P3
open PySem PySem.Spec PyProof.Rows
theorem gT2 {E : XW} {i j : Nat} {x y : PV} {ρ : PEnv} {S : Store} {Q : PEnv → Store → Prop} (q : Q ((ρ.set i (some x)).set j (some y)) S) : gT 2 (gsCons (gN i) (gsCons (gN j) gsNil)) E (.tup [x, y]) ρ S Q := ⟨rfl, q⟩
theorem gT3 {E : XW} {i j k : Nat} {x y z : PV} {ρ : PEnv} {S : Store} {Q : PEnv → Store → Prop} (q : Q (((ρ.set i (some x)).set j (some y)).set k (some z)) S) : gT 3 (gsCons (gN i) (gsCons (gN j) (gsCons (gN k) gsNil))) E (.tup [x, y, z]) ρ S Q := ⟨rfl, q⟩
theorem get_new {S : Store} {x : List PV} : (S ++ [x])[S.length]? = some x := by simp
theorem get_old {S : Store} {x y : List PV} {n : Nat} (h : S[n]? = some x) : (S ++ [y])[n]? = some x := by
  rw [List.getElem?_append_left (List.getElem?_eq_some_iff.mp h).1]; exact h
/-! ### floors and prints -/
theorem floor_eq {x : Rat} {y : Int} (h1 : (y : Rat) ≤ x) (h2 : x < ((y + 1 : Int) : Rat)) : x.floor = y := by
  have a := Rat.le_floor_iff.mpr h1
  have b := Rat.floor_lt_iff.mpr h2
  omega
theorem le_divInt {a b y : Int} (hb : 0 < b) : (y : Rat) ≤ Rat.divInt a b ↔ y * b ≤ a := by
  rw [← Rat.not_lt, Rat.divInt_eq_div, Rat.div_lt_iff (Rat.intCast_pos.mpr hb), ← Rat.intCast_mul, Rat.intCast_lt_intCast]
  omega
theorem divInt_lt {a b y : Int} (hb : 0 < b) : Rat.divInt a b < (y : Rat) ↔ a < y * b := by
  rw [Rat.divInt_eq_div, Rat.div_lt_iff (Rat.intCast_pos.mpr hb), ← Rat.intCast_mul, Rat.intCast_lt_intCast]
theorem floor_divInt (a : Int) {b : Int} (hb : 0 < b) : (Rat.divInt a b).floor = a / b :=
  floor_eq ((le_divInt hb).mpr (Int.ediv_mul_le a (by omega))) ((divInt_lt hb).mpr (Int.lt_ediv_add_one_mul_self a hb))
theorem half_divInt (a : Int) {b : Int} (hb : 0 < b) : Rat.divInt a b + 1 / 2 = Rat.divInt (2 * a + b) (2 * b) := by
  have e : (1 / 2 : Rat) = Rat.divInt 1 2 := by rw [Rat.divInt_eq_div]; rfl
  rw [e, Rat.divInt_add_divInt _ _ (by omega) (by decide), Int.mul_comm a, Int.one_mul, Int.mul_comm b]
theorem floor_half (a : Int) {b : Int} (hb : 0 < b) : (Rat.divInt a b + 1 / 2).floor = if 2 * (a - a / b * b) < b then a / b else a / b + 1 := by
  rw [half_divInt a hb, floor_divInt _ (by omega)]
  have h := Int.mul_ediv_add_emod a b
  have h0 := Int.emod_nonneg a (show b ≠ 0 by omega)
  have h1 := Int.emod_lt_of_pos a hb
  have e : a / b * b = b * (a / b) := Int.mul_comm _ _
  generalize hy : a / b = y at *
  generalize hr : a % b = r at *
  split
  · rename_i h2
    refine Int.ediv_eq_iff_of_pos ?_ |>.mpr ⟨?_, ?_⟩
    · omega
    · rw [Int.mul_comm]; have : 2 * b * y = 2 * (b * y) := Int.mul_assoc _ _ _; omega
    · rw [Int.mul_comm y]; have : 2 * b * y = 2 * (b * y) := Int.mul_assoc _ _ _; omega
  · rename_i h2
    refine Int.ediv_eq_iff_of_pos ?_ |>.mpr ⟨?_, ?_⟩
    · omega
    · rw [Int.add_mul, Int.mul_comm y]; have : 2 * b * y = 2 * (b * y) := Int.mul_assoc _ _ _; omega
    · rw [Int.add_mul, Int.mul_comm y]; have : 2 * b * y = 2 * (b * y) := Int.mul_assoc _ _ _; omega
theorem den_two (a : Int) {b : Int} (hb : 0 < b) : (Rat.divInt a b).den = 2 ↔ 2 * (a - a / b * b) = b := by
  have h := Int.mul_ediv_add_emod a b
  have h0 := Int.emod_nonneg a (show b ≠ 0 by omega)
  have h1 := Int.emod_lt_of_pos a hb
  have e : a / b * b = b * (a / b) := Int.mul_comm _ _
  generalize hy : a / b = y at *
  generalize hr : a % b = r at *
  constructor
  · intro hd
    have e1 := Rat.num_divInt_den (Rat.divInt a b)
    have co := (Rat.divInt a b).reduced
    rw [hd] at e1 co
    have e2 := (Rat.divInt_eq_divInt_iff (by decide) (by omega)).mp e1
    generalize (Rat.divInt a b).num = n at *
    have odd : n % 2 = 1 := by
      rcases Int.emod_two_eq n with h | h
      · exfalso
        have : 2 ∣ n.natAbs := by omega
        have := Nat.Coprime.eq_one_of_dvd (Nat.Coprime.symm co) this
        omega
      · exact h
    obtain ⟨k, hk⟩ : ∃ k, n = 2 * k + 1 := ⟨n / 2, by omega⟩
    subst hk
    have e3 : (2 * k + 1) * b = 2 * (k * b) + b := by rw [Int.add_mul, Int.mul_assoc]; omega
    have e4 : b * y = y * b := Int.mul_comm _ _
    have e5 : (k - y) * b = k * b - y * b := Int.sub_mul _ _ _
    have : k - y = 0 := by
      rcases Int.lt_trichotomy (k - y) 0 with z | z | z
      · have : (k - y) * b ≤ (-1) * b := Int.mul_le_mul_of_nonneg_right (by omega) (by omega)
        omega
      · exact z
      · have : 1 * b ≤ (k - y) * b := Int.mul_le_mul_of_nonneg_right (by omega) (by omega)
        omega
    rw [this] at e5
    omega
  · intro h2
    have e1 : a = (2 * y + 1) * r := by
      have : b = 2 * r := by omega
      subst this
      have e6 : (2 * y + 1) * r = 2 * (y * r) + r := by rw [Int.add_mul, Int.mul_assoc]; omega
      have e7 : 2 * r * y = 2 * (y * r) := by rw [Int.mul_assoc, Int.mul_comm r]
      omega
    have e2 : b = 2 * r := by omega
    rw [e1, e2, Rat.divInt_mul_right (by omega), Rat.den_divInt, if_neg (by decide)]
    have : Int.gcd 2 (2 * y + 1) = 1 := by
      have : Nat.gcd 2 (2 * y + 1).natAbs = 1 := by
        rw [Nat.gcd_rec]
        have : (2 * y + 1).natAbs % 2 = 1 := by omega
        rw [this]; exact Nat.gcd_one_left 2
      exact this
    rw [this]; rfl
theorem half_eq : (1 / 2 : Rat) = Rat.divInt 1 2 := by rw [Rat.divInt_eq_div]; rfl
theorem rs_half : RS 2 (1 / 2 : Rat) := by rw [half_eq]; exact rs_divInt (by decide) (by unfold Sz; decide) (by unfold Sz; decide)
theorem fr_half : PV.tup [.int 1, .int 2] = fr (1 / 2) := by
  unfold fr
  rw [half_eq, Rat.num_divInt, Rat.den_divInt]; rfl
/-- the print of L in a mode -/
def prn (L : Rat) (mode : Str) : Int :=
  if mode = "down" then L.floor else if mode = "even" ∧ L.den = 2 ∧ (L + 1 / 2).floor % 2 = 1 then (L + 1 / 2).floor - 1 else (L + 1 / 2).floor
def IsMode (m : Str) : Prop := m = "up" ∨ m = "even" ∨ m = "down"
theorem prn_int (a : Int) {b : Int} (hb : 0 < b) {mode : Str} (hm : IsMode mode) : prn (Rat.divInt a b) mode =
    if mode = "down" ∨ 2 * (a - a / b * b) < b then a / b else if b < 2 * (a - a / b * b) ∨ mode = "up" then a / b + 1 else a / b + a / b % 2 := by
  unfold prn
  rw [floor_divInt a hb, floor_half a hb]
  have hd := den_two a hb
  generalize 2 * (a - a / b * b) = r2 at *
  rcases hm with rfl | rfl | rfl
  · simp only [show ¬ (("up" : Str) = "down") by decide, show ¬ (("up" : Str) = "even") by decide, if_false, false_and, false_or]
    by_cases h : r2 < b <;> simp [h]
  · simp only [show ¬ (("even" : Str) = "down") by decide, show ¬ (("even" : Str) = "up") by decide, if_false, true_and, false_or, or_false]
    by_cases h : r2 < b
    · simp only [h, if_true]
      have : ¬ (Rat.divInt a b).den = 2 := fun e => by have := hd.mp e; omega
      simp [this]
    · simp only [h, if_false]
      by_cases h2 : b < r2
      · have : ¬ (Rat.divInt a b).den = 2 := fun e => by have := hd.mp e; omega
        simp [this, h2]
      · have : (Rat.divInt a b).den = 2 := hd.mpr (by omega)
        simp only [this, h2, true_and, if_false]
        split <;> omega
  · simp
theorem prn_int2 (a : Int) {b : Int} (hb : 0 < b) {mode : Str} : prn (Rat.divInt a b) mode =
    if mode = "down" then a / b else if mode = "even" ∧ (2 * a + b) % (2 * b) = 0 ∧ (2 * a + b) / (2 * b) % 2 = 1 then (2 * a + b) / (2 * b) - 1 else (2 * a + b) / (2 * b) := by
  have hd := den_two a hb
  have h : (Rat.divInt a b).den = 2 ↔ (2 * a + b) % (2 * b) = 0 := by
    rw [hd]
    have h := Int.mul_ediv_add_emod a b
    have h0 := Int.emod_nonneg a (show b ≠ 0 by omega)
    have h1 := Int.emod_lt_of_pos a hb
    have e : a / b * b = b * (a / b) := Int.mul_comm _ _
    generalize a / b = y at *
    generalize a % b = r at *
    have e2 : 2 * a + b = (2 * r + b) + y * (2 * b) := by
      have : y * (2 * b) = 2 * (b * y) := by rw [Int.mul_left_comm, Int.mul_comm y]
      omega
    rw [e2, Int.add_mul_emod_self_right]
    constructor
    · intro h; have : 2 * r + b = 2 * b := by omega
      rw [this]; exact Int.emod_self
    · intro h
      rcases Int.lt_or_le (2 * r + b) (2 * b) with z | z
      · rw [Int.emod_eq_of_lt (by omega) z] at h; omega
      · have e3 : 2 * r + b = (2 * r - b) + 1 * (2 * b) := by omega
        rw [e3, Int.add_mul_emod_self_right, Int.emod_eq_of_lt (by omega) (by omega)] at h
        omega
  unfold prn
  rw [floor_divInt a hb, half_divInt a hb, floor_divInt _ (by omega)]
  simp only [h]
theorem sz_floor {n : Nat} {x : Rat} (h : RS n x) : Sz n x.floor := by rw [Rat.floor_def]; exact h.1.ediv
theorem sz_prn {n : Nat} {x : Rat} (h : RS n x) (mode : Str) : Sz (n + 4) (prn x mode) := by
  unfold prn
  have h2 : Sz (n + 3) (x + 1 / 2).floor := sz_floor (h.add rs_half)
  split
  · exact (sz_floor h).mono (by omega)
  · split
    · exact h2.sub (sz_one (by omega)) (Nat.le_refl _) (Nat.le_refl _)
    · exact h2.mono (by omega)
theorem gcd_one_right' (k : Int) : Int.gcd k 1 = 1 := by
  have : Nat.gcd k.natAbs 1 = 1 := Nat.gcd_one_right _
  exact this
theorem fr_one_over {k : Int} (h : 0 < k) : PV.tup [.int 1, .int k] = fr (Rat.divInt 1 k) := by
  unfold fr
  rw [Rat.num_divInt, Rat.den_divInt, if_neg (by omega), gcd_one_right', Int.sign_eq_one_of_pos h, Nat.div_one, Int.natAbs_of_nonneg (Int.le_of_lt h)]
  rfl
theorem mul_one_over (i : Int) (k : Int) : (i : Rat) * Rat.divInt 1 k = Rat.divInt i k := by
  rw [Rat.divInt_eq_div, Rat.divInt_eq_div, Rat.div_def, Rat.div_def, Rat.intCast_one, Rat.one_mul]
theorem prn_law {x : Rat} {k : Int} : Rat.divInt (x.num * k) x.den = x * (k : Rat) := by
  rw [rat_mul_eq, Rat.num_intCast, Rat.den_intCast, Int.natCast_one, Int.mul_one]
end L2.P3
namespace L2.P3
open PySem PySem.Spec PyProof.Rows
/-! ### a, b, c = x, y, z -/
def pPar3 (i j l : Nat) (f : PTA) : PTS := fun E D ρ S => f E ρ S fun xs S1 => match xs with
  | [x, y, z] => D.nx (((ρ.set i (some x)).set j (some y)).set l (some z)) S1
  | _ => False
instance {i j l : Nat} {f : PTA} [MoA f] : MoS (pPar3 i j l f) := ⟨fun h q => MoA.mo (f := f) (fun xs _ q => by
  split at q
  · exact h.nx _ _ q
  · exact q.elim) q⟩
section
variable {bk : BagKind} {X : Cx}
theorem q_par3 {i j l : Nat} {x y z : Str} {a b c : Expr} {f : PTA} {px py pz pt pos : Pos} {kt k2 pt2} (hc : X.calm = true) (hN : X.N.Nodup) (hi : X.N[i]? = some x) (hj : X.N[j]? = some y) (hl : X.N[l]? = some z) (hij : i ≠ j) (hil : i ≠ l) (hjl : j ≠ l)
    (hx : X.env.scope.names.lookup x = some .local) (hy : X.env.scope.names.lookup y = some .local) (hz : X.env.scope.names.lookup z = some .local) (ha : QA bk X [a, b, c] f)
    (hw : swappedStores [.Tuple [.Name x px, .Name y py, .Name z pz] kt pt] (.Tuple [a, b, c] k2 pt2) X.env = pure (some [x, y, z]))
    (hs : swapsWithSole [.Tuple [.Name x px, .Name y py, .Name z pz] kt pt] (.Tuple [a, b, c] k2 pt2) pos.line X.env = pure false := by rfl) :
    QS bk X (.Assign [.Tuple [.Name x px, .Name y py, .Name z pz] kt pt] (.Tuple [a, b, c] k2 pt2) pos) (pPar3 i j l f) := by
  obtain ⟨ta, pa, wa⟩ := ha.ex
  refine ⟨_, ps_par3 hc hN hi hj hl hij hil hjl hx hy hz pa hw hs, fun E M ρ S σ H D D' R q p => ?_⟩
  refine wa E M ρ S σ H _ _ R q fun M1 S1 H1 xs vs t1 s1 r1 q1 => ?_
  split at q1
  · simp only [Rps] at r1
    obtain ⟨u, _, rfl, r2, v, _, rfl, r3, w, _, rfl, r4, rfl⟩ := r1
    exact ⟨u, v, w, rfl, p.nx M1 _ S1 _ H1 t1 ((((R.step t1 s1).set i r2).set j r3).set l r4) q1⟩
  · exact q1.elim
end
end L2.P3
namespace L2.P3
open PySem PySem.Spec PyProof.Rows
/-! ### [elt for a in .. for b in ..] -/
def pLcI (chk : Store → Prop) (g : PTG) (tt : PTT) (te : PTE) (E : XW) (ρ0 : PEnv) (n : Nat) (K : Store → Prop) : List PV → Store → Prop
  | [], S => chk S ∧ K S
  | x :: xs, S => chk S ∧ g E x ρ0 S fun ρ1 S1 => tt E ρ1 S1 fun b S2 =>
    Br b (te E ρ1 S2 fun y S3 => onO S3[n]? fun acc => acc.length < 16777216 ∧ pLcI chk g tt te E ρ0 n K xs (S3.set n (acc ++ [y]))) (pLcI chk g tt te E ρ0 n K xs S2)
def pLcO (chk : Store → Prop) (g : PTG) (tt : PTT) (i1 : PTI) (g1 : PTG) (tt1 : PTT) (te : PTE) (ws1 : List Nat) (E : XW) (ρ0 : PEnv) (n : Nat) (Q : PQ) : List PV → Store → Prop
  | [], S => chk S ∧ Q (.lst n) S
  | x :: xs, S => chk S ∧ g E x ρ0 S fun ρ1 S1 => tt E ρ1 S1 fun b S2 =>
    Br b (i1 E ρ1 S2 fun it S3 => pLcI it.chk g1 tt1 te E (wipeP ρ1 ws1) n (fun S' => pLcO chk g tt i1 g1 tt1 te ws1 E ρ0 n Q xs S') it.items S3) (pLcO chk g tt i1 g1 tt1 te ws1 E ρ0 n Q xs S2)
def pLc2 (i : PTI) (g : PTG) (tt : PTT) (i1 : PTI) (g1 : PTG) (tt1 : PTT) (te : PTE) (ws ws1 : List Nat) : PTE := fun E ρ S Q => i E ρ S fun it S1 => pLcO it.chk g tt i1 g1 tt1 te ws1 E (wipeP ρ ws) S1.length Q it.items (S1 ++ [[]])
theorem pLcI_mo {chk : Store → Prop} {g : PTG} {tt : PTT} {te : PTE} [MoG g] [MoT tt] [MoE te] {E : XW} {ρ0 : PEnv} {n : Nat} {K K' : Store → Prop} (h : ∀ S, K S → K' S) : ∀ {xs : List PV} {S : Store}, pLcI chk g tt te E ρ0 n K xs S → pLcI chk g tt te E ρ0 n K' xs S
  | [], S, q => ⟨q.1, h _ q.2⟩
  | x :: xs, S, q => by
    unfold pLcI at q ⊢
    refine ⟨q.1, MoG.mo (g := g) (fun _ _ q => MoT.mo (f := tt) (fun b _ q => ?_) q) q.2⟩
    cases b with
    | false => exact pLcI_mo h q
    | true => exact MoE.mo (f := te) (fun _ _ q => onO_mo (fun _ q => ⟨q.1, pLcI_mo h q.2⟩) q) q
theorem pLcO_mo {chk : Store → Prop} {g : PTG} {tt : PTT} {i1 : PTI} {g1 : PTG} {tt1 : PTT} {te : PTE} {ws1 : List Nat} [MoG g] [MoT tt] [MoI i1] [MoG g1] [MoT tt1] [MoE te] {E : XW} {ρ0 : PEnv} {n : Nat} {Q Q' : PQ} (h : ∀ x S, Q x S → Q' x S) : ∀ {xs : List PV} {S : Store}, pLcO chk g tt i1 g1 tt1 te ws1 E ρ0 n Q xs S → pLcO chk g tt i1 g1 tt1 te ws1 E ρ0 n Q' xs S
  | [], S, q => ⟨q.1, h _ _ q.2⟩
  | x :: xs, S, q => by
    unfold pLcO at q ⊢
    refine ⟨q.1, MoG.mo (g := g) (fun _ _ q => MoT.mo (f := tt) (fun b _ q => ?_) q) q.2⟩
    cases b with
    | false => exact pLcO_mo h q
    | true => exact MoI.mo (f := i1) (fun _ _ q => pLcI_mo (fun _ q => pLcO_mo h q) q) q
instance {i : PTI} {g : PTG} {tt : PTT} {i1 : PTI} {g1 : PTG} {tt1 : PTT} {te : PTE} {ws ws1 : List Nat} [MoI i] [MoG g] [MoT tt] [MoI i1] [MoG g1] [MoT tt1] [MoE te] : MoE (pLc2 i g tt i1 g1 tt1 te ws ws1) := ⟨fun h q => MoI.mo (f := i) (fun _ _ q => pLcO_mo h q) q⟩
section
variable {bk : BagKind} {X : Cx}
def tI (bk : BagKind) (K : PySem.W.Frag) (f : PTI) : TI := fun σ H R' => ∃ (E : XW) (M : Am) (ρ : PEnv) (S : Store) (R : PIter → Store → Prop), Rel K bk M ρ S σ H ∧ f E ρ S R ∧ ∀ M' S' H' it J, Step M H M' H' → Sto K bk M' S' H' → ItOk bk K it J M' H' → R it S' → R' J H'
theorem QI.canon {tg e : Expr} {f : PTI} (h : QI bk X tg e f) : PI X tg e (tI bk X.K f) := by
  obtain ⟨t, p, w⟩ := h.ex
  exact ⟨fun pins s σ H R' I ⟨E, M, ρ, S, R, Rl, q, k⟩ => p.run pins s σ H R' I (w E M ρ S σ H R R' Rl q k)⟩
theorem lc2_sound {wi : TI} {g : TG} {tt : TT} {wi1 : TI} {g1 : TG} {tt1 : TT} {te : TE} {ws ws1 : List Nat} {i i1 : PTI} {pg pg1 : PTG} {pt pt1 : PTT} {pe : PTE}
    (hi : ∀ (E : XW) M ρ S σ H R R', Rel X.K bk M ρ S σ H → i E ρ S R → (∀ M' S' H' it J, Step M H M' H' → Sto X.K bk M' S' H' → ItOk bk X.K it J M' H' → R it S' → R' J H') → wi σ H R')
    (hg : ∀ (E : XW) M ρ S σ0 H x v (Q : PEnv → Store → Prop) (Q' : St → Hp → Prop), Rel X.K bk M ρ S (wipe σ0 ws) H → Rp X.K bk.root M H x v → pg E x ρ S Q →
      (∀ M' ρ' S' σ' H', wipe σ' ws = wipe σ0 ws → Step M H M' H' → Rel X.K bk M' ρ' S' σ' H' → Q ρ' S' → Q' σ' H') → g v (wipe σ0 ws) H Q')
    (ht : ∀ (E : XW) M ρ S σ H Q Q', Rel X.K bk M ρ S σ H → pt E ρ S Q → PostT bk X.K M H Q Q' → tt σ H Q')
    (hi1 : ∀ (E : XW) M ρ S σ H R R', Rel X.K bk M ρ S σ H → i1 E ρ S R → (∀ M' S' H' it J, Step M H M' H' → Sto X.K bk M' S' H' → ItOk bk X.K it J M' H' → R it S' → R' J H') → wi1 σ H R')
    (hg1 : ∀ (E : XW) M ρ S σ0 H x v (Q : PEnv → Store → Prop) (Q' : St → Hp → Prop), Rel X.K bk M ρ S (wipe σ0 ws1) H → Rp X.K bk.root M H x v → pg1 E x ρ S Q →
      (∀ M' ρ' S' σ' H', wipe σ' ws1 = wipe σ0 ws1 → Step M H M' H' → Rel X.K bk M' ρ' S' σ' H' → Q ρ' S' → Q' σ' H') → g1 v (wipe σ0 ws1) H Q')
    (ht1 : ∀ (E : XW) M ρ S σ H Q Q', Rel X.K bk M ρ S σ H → pt1 E ρ S Q → PostT bk X.K M H Q Q' → tt1 σ H Q')
    (he : ∀ (E : XW) M ρ S σ H Q Q', Rel X.K bk M ρ S σ H → pe E ρ S Q → Post bk X.K M H Q Q' → te σ H Q')
    (E : XW) (M : Am) (ρ : PEnv) (S : Store) (σ : St) (H : Hp) (Q : PQ) (Q' : VK) (R : Rel X.K bk M ρ S σ H) (q : pLc2 i pg pt i1 pg1 pt1 pe ws ws1 E ρ S Q) (p : Post bk X.K M H Q Q') : tLc2 wi g tt wi1 g1 tt1 te ws ws1 σ H Q' := by
  refine hi E M ρ S σ H _ _ R q fun M1 S1 H1 it J t1 s1 ok q1 => ?_
  intro D hD
  have s2 : Sto X.K bk (M1.add D) (S1 ++ [[]]) (upd H1 D (.lst [])) := s1.push hD .nil
  have t2 : Step M1 H1 (M1.add D) (upd H1 D (.lst [])) := Step.push hD
  have eD : ∀ {M3 : Am} {H3 : Hp}, Step (M1.add D) (upd H1 D (.lst [])) M3 H3 → LsAt M3 S1.length D := fun {M3 H3} t => LsAt.at s1.new_at t
  let L := pLcO it.chk pg pt i1 pg1 pt1 pe ws1 E (wipeP ρ ws) S1.length Q
  refine ⟨fun k j H2 => j = it.items.length - k ∧ k ≤ it.items.length ∧ ∃ M2 S2, Step (M1.add D) (upd H1 D (.lst [])) M2 H2 ∧ Sto X.K bk M2 S2 H2 ∧ L (it.items.drop k) S2,
    ⟨_, rfl, Nat.zero_le _, _, _, .refl _ _, s2, q1⟩, ?_⟩
  rintro k j H2 ⟨rfl, hk, M2, S2, t3, s3, q2⟩
  have t13 := t1.trans (t2.trans t3)
  by_cases hlt : k < it.items.length
  · rw [List.drop_eq_getElem_cons hlt] at q2
    have q2 : pLcO it.chk pg pt i1 pg1 pt1 pe ws1 E (wipeP ρ ws) S1.length Q (it.items[k] :: it.items.drop (k + 1)) S2 := q2
    unfold pLcO at q2
    obtain ⟨hck, q2⟩ := q2
    obtain ⟨hgo, hy⟩ := (ok M2 S2 H2 k (t2.trans t3) s3 hck).1 it.items[k] (by simp [hlt])
    refine .inr ⟨hgo, fun H' => ∃ M3 S3, Step (M1.add D) (upd H1 D (.lst [])) M3 H' ∧ Sto X.K bk M3 S3 H' ∧ L (it.items.drop (k + 1)) S3, fun H' z => ⟨_, by omega, rfl, hlt, z⟩, fun v H3 y => ?_⟩
    obtain ⟨t4, s4, r4⟩ := hy v H3 y
    refine hg E M2 _ S2 σ H3 _ v _ _ ((R.step (t13.trans t4) s4).wipe ws) r4 q2 fun M5 ρ5 S5 σ5 H5 hw t5 R5 q5 => ⟨hw, ?_⟩
    refine ht E M5 ρ5 S5 σ5 H5 _ _ R5 q5 fun M6 S6 H6 b t6 s6 q6 => ?_
    have t36 := t3.trans (t4.trans (t5.trans t6))
    cases b with
    | false =>
      rw [if_neg Bool.false_ne_true]
      exact ⟨M6, S6, t36, s6, q6⟩
    | true =>
      rw [if_pos rfl]
      have R6 := R5.step t6 s6
      refine hi1 E M6 ρ5 S6 σ5 H6 _ _ R6 q6 fun M7 S7 H7 it1 J1 t7 s7 ok1 q7 => ?_
      have t37 := t36.trans t7
      refine ⟨fun k1 j1 H8 => j1 = it1.items.length - k1 ∧ k1 ≤ it1.items.length ∧ ∃ M8 S8, Step M7 H7 M8 H8 ∧ Sto X.K bk M8 S8 H8 ∧ pLcI it1.chk pg1 pt1 pe E (wipeP ρ5 ws1) S1.length (fun S' => L (it.items.drop (k + 1)) S') (it1.items.drop k1) S8,
        ⟨_, rfl, Nat.zero_le _, _, _, .refl _ _, s7, q7⟩, ?_⟩
      rintro k1 j1 H8 ⟨rfl, hk1, M8, S8, t8, s8, q8⟩
      have t38 := t37.trans t8
      by_cases hlt1 : k1 < it1.items.length
      · rw [List.drop_eq_getElem_cons hlt1] at q8
        unfold pLcI at q8
        obtain ⟨hck1, q8⟩ := q8
        obtain ⟨hgo1, hy1⟩ := (ok1 M8 S8 H8 k1 t8 s8 hck1).1 it1.items[k1] (by simp [hlt1])
        refine .inr ⟨hgo1, fun H' => ∃ M9 S9, Step M7 H7 M9 H' ∧ Sto X.K bk M9 S9 H' ∧ pLcI it1.chk pg1 pt1 pe E (wipeP ρ5 ws1) S1.length (fun S' => L (it.items.drop (k + 1)) S') (it1.items.drop (k1 + 1)) S9, fun H' z => ⟨_, by omega, rfl, hlt1, z⟩, fun v1 H9 y1 => ?_⟩
        obtain ⟨t9, s9, r9⟩ := hy1 v1 H9 y1
        refine hg1 E M8 _ S8 σ5 H9 _ v1 _ _ ((R6.step (t7.trans (t8.trans t9)) s9).wipe ws1) r9 q8 fun Ma ρa Sa σa Ha hwa ta Ra qa => ⟨hwa, ?_⟩
        refine ht1 E Ma ρa Sa σa Ha _ _ Ra qa fun Mb Sb Hb b1 tb sb qb => ?_
        have t7b := t8.trans (t9.trans (ta.trans tb))
        cases b1 with
        | false =>
          rw [if_neg Bool.false_ne_true]
          exact ⟨Mb, Sb, t7b, sb, qb⟩
        | true =>
          rw [if_pos rfl]
          refine he E Mb ρa Sb σa Hb _ _ (Ra.step tb sb) qb fun Mc Sc Hc yc vc tc sc rc qc => ?_
          obtain ⟨acc, ea, hl, qc⟩ := onO_ex qc
          have t7c := t7b.trans tc
          have eq := eD (t37.trans t7c)
          obtain ⟨vs, e2, e3⟩ := sc.lst eq ea
          refine ⟨vs, e2, by rw [e3.length, szl]; exact hl, ?_⟩
          obtain ⟨td, sd⟩ := sc.write eq (e3.append (.cons rc .nil))
          exact ⟨Mc, _, t7c.trans td, sd, qc⟩
      · have e : k1 = it1.items.length := by omega
        subst e
        rw [List.drop_length] at q8
        obtain ⟨hck1, q8⟩ := q8
        exact .inl ⟨(ok1 M8 S8 H8 _ t8 s8 hck1).2 (by simp), M8, S8, t38, s8, q8⟩
  · have e : k = it.items.length := by omega
    subst e
    rw [List.drop_length] at q2
    obtain ⟨hck, q2⟩ := q2
    exact .inl ⟨(ok M2 S2 H2 _ (t2.trans t3) s3 hck).2 (by simp), p M2 S2 H2 _ _ t13 s3 (to_lst (eD t3)) q2⟩
theorem q_lc2 {elt tg iter tg1 iter1 : Expr} {ifs ifs1 : List Expr} {scope : Scope} {own : List (Str × Nat)} {pos : Pos} {i i1 : PTI} {pg pg1 : PTG} {pt pt1 : PTT} {pe : PTE} {ws ws1 : List Nat} (hc : X.calm = true) (hN : X.N.Nodup) (hi : QI bk X tg iter i) (ok : BlkOk X.N X.env.scope scope own) (hws : own.map (·.2) = ws) (hv : ∀ j ∈ ws1, j ∈ ws)
    (hg : ∀ (s : Shared) (H : Hp) (C : Addr) (cl : List (Str × Addr)) (fp : List Addr), QGw bk (X.blk s H scope (compEnvC scope cl C X.env) fp) tg pg ws)
    (ht : ∀ (s : Shared) (H : Hp) (C : Addr) (cl : List (Str × Addr)) (fp : List Addr), QTs bk (X.blk s H scope (compEnvC scope cl C X.env) fp) ifs pt)
    (hi1 : ∀ (s : Shared) (H : Hp) (C : Addr) (cl : List (Str × Addr)) (fp : List Addr), QI bk (X.blk s H scope (compEnvC scope cl C X.env) fp) tg1 iter1 i1)
    (hg1 : ∀ (s : Shared) (H : Hp) (C : Addr) (cl : List (Str × Addr)) (fp : List Addr), QGw bk (X.blk s H scope (compEnvC scope cl C X.env) fp) tg1 pg1 ws1)
    (ht1 : ∀ (s : Shared) (H : Hp) (C : Addr) (cl : List (Str × Addr)) (fp : List Addr), QTs bk (X.blk s H scope (compEnvC scope cl C X.env) fp) ifs1 pt1)
    (he : ∀ (s : Shared) (H : Hp) (C : Addr) (cl : List (Str × Addr)) (fp : List Addr), QE bk (X.blk s H scope (compEnvC scope cl C X.env) fp) elt pe)
    (hs : ∀ x, foldedSetIterable iter X.env x = pure x := by intro _; rfl) (hs1 : ∀ env x, foldedSetIterable iter1 env x = pure x := by intro _ _; rfl) : QE bk X (.ListComp elt [⟨tg, iter, ifs, 0⟩, ⟨tg1, iter1, ifs1, 0⟩] scope pos) (pLc2 i pg pt i1 pg1 pt1 pe ws ws1) := by
  obtain ⟨ti, pi, wi⟩ := hi.ex
  subst hws
  refine ⟨_, pe_lc2 (vs1 := ws1) (g := tGw bk X.K (own.map (·.2)) pg) (tt := tT bk X.K pt) (wi1 := tI bk X.K i1) (g1 := tGw bk X.K ws1 pg1) (tt1 := tT bk X.K pt1) (te := tE bk X.K pe) hc hN pi ok hv (fun s H C cl fp => (hg s H C cl fp).canon) (fun s H C cl fp => (ht s H C cl fp).canon) (fun s H C cl fp => (hi1 s H C cl fp).canon) (fun s H C cl fp => (hg1 s H C cl fp).canon) (fun s H C cl fp => (ht1 s H C cl fp).canon) (fun s H C cl fp => (he s H C cl fp).canon) hs hs1, fun E M ρ S σ H Q Q' R q p => ?_⟩
  exact lc2_sound wi (fun E M ρ S σ0 H x v Q Q' R r q k => ⟨E, M, ρ, S, σ0, x, Q, rfl, R, r, q, k⟩) (fun E M ρ S σ H Q Q' R q k => ⟨E, M, ρ, S, Q, R, q, k⟩) (fun E M ρ S σ H Q Q' R q k => ⟨E, M, ρ, S, Q, R, q, k⟩) (fun E M ρ S σ0 H x v Q Q' R r q k => ⟨E, M, ρ, S, σ0, x, Q, rfl, R, r, q, k⟩) (fun E M ρ S σ H Q Q' R q k => ⟨E, M, ρ, S, Q, R, q, k⟩) (fun E M ρ S σ H Q Q' R q k => ⟨E, M, ρ, S, Q, R, q, k⟩) E M ρ S σ H Q Q' R q p
theorem q_setLc2 {j : Nat} {y : Str} {py : Pos} {elt tg iter tg1 iter1 : Expr} {ifs ifs1 : List Expr} {scope : Scope} {own : List (Str × Nat)} {pos spos : Pos} {i i1 : PTI} {pg pg1 : PTG} {pt pt1 : PTT} {pe : PTE} {ws ws1 : List Nat} (hc : X.calm = true) (hN : X.N.Nodup) (hy : X.N[j]? = some y) (hyl : X.env.scope.names.lookup y = some .local)
    (hsw : swapsWith (.ListComp elt [⟨tg, iter, ifs, 0⟩, ⟨tg1, iter1, ifs1, 0⟩] scope pos) (some (.Name y py)) spos.line X.env = pure true) (hi : QI bk X tg iter i) (ok : BlkOk X.N X.env.scope scope own) (hws : own.map (·.2) = ws) (hv : ∀ j ∈ ws1, j ∈ ws)
    (hg : ∀ (s : Shared) (H : Hp) (C : Addr) (cl : List (Str × Addr)) (fp : List Addr), QGw bk (X.blk s H scope (compEnvC scope cl C X.env) fp) tg pg ws)
    (ht : ∀ (s : Shared) (H : Hp) (C : Addr) (cl : List (Str × Addr)) (fp : List Addr), QTs bk (X.blk s H scope (compEnvC scope cl C X.env) fp) ifs pt)
    (hi1 : ∀ (s : Shared) (H : Hp) (C : Addr) (cl : List (Str × Addr)) (fp : List Addr), QI bk (X.blk s H scope (compEnvC scope cl C X.env) fp) tg1 iter1 i1)
    (hg1 : ∀ (s : Shared) (H : Hp) (C : Addr) (cl : List (Str × Addr)) (fp : List Addr), QGw bk (X.blk s H scope (compEnvC scope cl C X.env) fp) tg1 pg1 ws1)
    (ht1 : ∀ (s : Shared) (H : Hp) (C : Addr) (cl : List (Str × Addr)) (fp : List Addr), QTs bk (X.blk s H scope (compEnvC scope cl C X.env) fp) ifs1 pt1)
    (he : ∀ (s : Shared) (H : Hp) (C : Addr) (cl : List (Str × Addr)) (fp : List Addr), QE bk (X.blk s H scope (compEnvC scope cl C X.env) fp) elt pe)
    (hs : ∀ x, foldedSetIterable iter X.env x = pure x := by intro _; rfl) (hs1 : ∀ env x, foldedSetIterable iter1 env x = pure x := by intro _ _; rfl) : QS bk X (.Assign [.Name y py] (.ListComp elt [⟨tg, iter, ifs, 0⟩, ⟨tg1, iter1, ifs1, 0⟩] scope pos) spos) (pSet j (pLc2 i pg pt i1 pg1 pt1 pe ws ws1)) := by
  obtain ⟨ti, pi, wi⟩ := hi.ex
  subst hws
  refine ⟨_, ps_setLc2 (vs1 := ws1) (g := tGw bk X.K (own.map (·.2)) pg) (tt := tT bk X.K pt) (wi1 := tI bk X.K i1) (g1 := tGw bk X.K ws1 pg1) (tt1 := tT bk X.K pt1) (te := tE bk X.K pe) hc hN hy hyl hsw pi ok hv (fun s H C cl fp => (hg s H C cl fp).canon) (fun s H C cl fp => (ht s H C cl fp).canon) (fun s H C cl fp => (hi1 s H C cl fp).canon) (fun s H C cl fp => (hg1 s H C cl fp).canon) (fun s H C cl fp => (ht1 s H C cl fp).canon) (fun s H C cl fp => (he s H C cl fp).canon) hs hs1, fun E M ρ S σ H D D' R q p => ?_⟩
  exact lc2_sound wi (fun E M ρ S σ0 H x v Q Q' R r q k => ⟨E, M, ρ, S, σ0, x, Q, rfl, R, r, q, k⟩) (fun E M ρ S σ H Q Q' R q k => ⟨E, M, ρ, S, Q, R, q, k⟩) (fun E M ρ S σ H Q Q' R q k => ⟨E, M, ρ, S, Q, R, q, k⟩) (fun E M ρ S σ0 H x v Q Q' R r q k => ⟨E, M, ρ, S, σ0, x, Q, rfl, R, r, q, k⟩) (fun E M ρ S σ H Q Q' R q k => ⟨E, M, ρ, S, Q, R, q, k⟩) (fun E M ρ S σ H Q Q' R q k => ⟨E, M, ρ, S, Q, R, q, k⟩) E M ρ S σ H _ _ R q fun M1 S1 H1 x v t1 s1 r1 q1 => p.nx M1 _ S1 _ H1 t1 ((R.step t1 s1).set j r1) q1
end
end L2.P3
namespace L2.P3
open PySem PySem.Spec PyProof.Rows
theorem pLcI_pure {chk : Store → Prop} {g : PTG} {tt : PTT} {te : PTE} {E : XW} {ρ0 : PEnv} {K : Store → Prop} {S : Store} (f : PV → Option PV) (hc : ∀ acc, chk (S ++ [acc])) :
    ∀ (xs : List PV) (acc : List PV), (∀ x ∈ xs, ∀ acc Qk, Qk (f x) (S ++ [acc]) → lcStep g tt te E ρ0 x (S ++ [acc]) Qk) → acc.length + xs.length ≤ 16777216 → K (S ++ [acc ++ xs.filterMap f]) →
      pLcI chk g tt te E ρ0 S.length K xs (S ++ [acc])
  | [], acc, _, _, q => ⟨hc acc, by simpa using q⟩
  | x :: xs, acc, h, hl, q => by
    refine ⟨hc acc, h x List.mem_cons_self acc (fun o S' => match o with
      | some y => onO S'[S.length]? fun a => a.length < 16777216 ∧ pLcI chk g tt te E ρ0 S.length K xs (S'.set S.length (a ++ [y]))
      | none => pLcI chk g tt te E ρ0 S.length K xs S') ?_⟩
    simp only [List.length_cons] at hl
    cases e : f x with
    | none =>
      rw [List.filterMap_cons_none e] at q
      exact pLcI_pure f hc xs acc (fun y hy => h y (List.mem_cons_of_mem _ hy)) (by omega) q
    | some y =>
      rw [List.filterMap_cons_some e] at q
      refine onO_of (x := acc) (by simp) ⟨by omega, ?_⟩
      have e2 : (S ++ [acc]).set S.length (acc ++ [y]) = S ++ [acc ++ [y]] := by simp
      rw [e2]
      exact pLcI_pure f hc xs (acc ++ [y]) (fun z hz => h z (List.mem_cons_of_mem _ hz)) (by simp; omega) (by simpa using q)
def lcStep2 (g : PTG) (tt : PTT) (i1 : PTI) (g1 : PTG) (tt1 : PTT) (te : PTE) (ws1 : List Nat) (E : XW) (ρ0 : PEnv) (n : Nat) (x : PV) (S : Store) (K : Store → Prop) : Prop :=
  g E x ρ0 S fun ρ1 S1 => tt E ρ1 S1 fun b S2 => Br b (i1 E ρ1 S2 fun it S3 => pLcI it.chk g1 tt1 te E (wipeP ρ1 ws1) n K it.items S3) (K S2)
theorem pLcO_pure {chk : Store → Prop} {g : PTG} {tt : PTT} {i1 : PTI} {g1 : PTG} {tt1 : PTT} {te : PTE} {ws1 : List Nat} {E : XW} {ρ0 : PEnv} {Q : PQ} {S : Store} (F : PV → List PV) (m : Nat) (hc : ∀ acc, chk (S ++ [acc])) :
    ∀ (xs : List PV) (acc : List PV), (∀ x ∈ xs, (F x).length ≤ m) → acc.length + xs.length * m ≤ 16777216 → (∀ x ∈ xs, ∀ acc K, acc.length + m ≤ 16777216 → K (S ++ [acc ++ F x]) → lcStep2 g tt i1 g1 tt1 te ws1 E ρ0 S.length x (S ++ [acc]) K) → Q (.lst S.length) (S ++ [acc ++ xs.flatMap F]) →
      pLcO chk g tt i1 g1 tt1 te ws1 E ρ0 S.length Q xs (S ++ [acc])
  | [], acc, _, _, _, q => ⟨hc acc, by simpa using q⟩
  | x :: xs, acc, hm, hl, h, q => by
    have h1 := hm x List.mem_cons_self
    rw [List.length_cons, Nat.succ_mul] at hl
    refine ⟨hc acc, h x List.mem_cons_self acc _ (by omega) ?_⟩
    exact pLcO_pure F m hc xs (acc ++ F x) (fun y hy => hm y (List.mem_cons_of_mem _ hy)) (by rw [List.length_append]; omega) (fun y hy => h y (List.mem_cons_of_mem _ hy)) (by simpa using q)
theorem atI_range {n k : Nat} {f : Nat → PV} (h : k < n) : atI ((List.range n).map f) (k : Int) = some (f k) := by
  rw [atI_get? (Int.natCast_nonneg k)]; simp [h]
end L2.P3
namespace L2.P3
open PySem PySem.Spec PyProof.Rows
mutual
theorem dat_belowN {st : Bool} {m : Nat} : ∀ {n : Nat} {x : PV}, dat st n x = true → below m x = true
  | n, .non, _ => rfl
  | n, .bl _, _ => rfl
  | n, .int _, _ => rfl
  | n, .str _, _ => rfl
  | n + 1, .tup xs, h => by
    simp only [dat, Bool.and_eq_true] at h
    unfold below
    exact dats_belowN h.2
  | 0, .tup xs, h => by simp [dat] at h
  | n, .lst _, h => by cases n <;> simp [dat] at h
  | n, .rol _, h => by cases n <;> simp [dat] at h
  | n, .bag, h => by cases n <;> simp [dat] at h
theorem dats_belowN {st : Bool} {m : Nat} : ∀ {n : Nat} {xs : List PV}, dats st n xs = true → belows m xs = true
  | n, [], _ => rfl
  | n, x :: xs, h => by
    simp only [dats, Bool.and_eq_true] at h
    simp only [belows, Bool.and_eq_true]
    exact ⟨dat_belowN h.1, dats_belowN h.2⟩
end
end L2.P3
namespace L2.P3
open PySem PySem.Spec PyProof.Rows
/-! ### the inverse by Euclid's way -/
structure Bz (m x r o u v : Int) : Prop where
  rp : 0 < r
  on : 0 ≤ o
  rm : r ≤ m
  om : o ≤ m
  hu : ∃ k, u * x = r + k * m
  hv : ∃ k, v * x = o + k * m
  hs : (0 ≤ v ∧ u ≤ 0 ∧ r * v - o * u = m) ∨ (v ≤ 0 ∧ 0 ≤ u ∧ o * u - r * v = m)
  hg : Int.gcd r o = 1
theorem gcd_emod_left {m x : Int} (hm : 0 < m) : Int.gcd m (x % m) = Int.gcd m x := by
  rw [Int.gcd_comm m x]
  have e : Int.gcd x m = Int.gcd (x % m) m := by
    have h := Int.mul_ediv_add_emod x m
    have h2 : x = x % m + x / m * m := by rw [Int.mul_comm]; omega
    rw [show Int.gcd x m = Int.gcd (x % m + x / m * m) m from by rw [← h2]]
    exact Int.gcd_add_mul_right_left ..
  rw [e, Int.gcd_comm]
theorem Bz.start {m x : Int} (hm : 0 < m) (hg : Int.gcd m x = 1) : Bz m x m (x % m) 0 1 := by
  have h0 := Int.emod_nonneg x (show m ≠ 0 by omega)
  have h1 := Int.emod_lt_of_pos x hm
  refine ⟨hm, h0, by omega, by omega, ⟨-1, by omega⟩, ⟨x / m, ?_⟩, .inl ⟨by decide, by decide, by omega⟩, ?_⟩
  · have h := Int.mul_ediv_add_emod x m
    rw [Int.mul_comm (x / m)]; omega
  · rw [gcd_emod_left hm]; exact hg
theorem Bz.next {m x r o u v : Int} (h : Bz m x r o u v) (ho : 0 < o) : Bz m x o (r - r / o * o) v (u - r / o * v) := by
  have hd := Int.mul_ediv_add_emod r o
  have h0 := Int.emod_nonneg r (show o ≠ 0 by omega)
  have h1 := Int.emod_lt_of_pos r ho
  have hp : 0 ≤ r / o := Int.ediv_nonneg (by have := h.rp; omega) (by omega)
  have e : r - r / o * o = r % o := by rw [Int.mul_comm]; omega
  obtain ⟨ku, hu⟩ := h.hu
  obtain ⟨kv, hv⟩ := h.hv
  have om := h.om
  generalize hpart : r / o = part at *
  refine ⟨ho, by omega, h.om, by omega, ⟨kv, hv⟩, ⟨ku - part * kv, ?_⟩, ?_, ?_⟩
  · grind
  · rcases h.hs with ⟨a, b, c⟩ | ⟨a, b, c⟩
    · right
      have := Int.mul_nonneg hp a
      refine ⟨by omega, a, ?_⟩
      grind
    · left
      have := Int.mul_nonneg hp (show 0 ≤ -v by omega)
      have e3 : part * -v = -(part * v) := Int.mul_neg _ _
      refine ⟨by omega, a, ?_⟩
      grind
  · rw [e, gcd_step (by have := h.rp; omega) (by omega)]; exact h.hg
theorem Bz.vm {m x r o u v : Int} (h : Bz m x r o u v) : -m ≤ v ∧ v ≤ m := by
  have rp := h.rp
  have on := h.on
  rcases h.hs with ⟨a, b, c⟩ | ⟨a, b, c⟩
  · have h1 : 1 * v ≤ r * v := Int.mul_le_mul_of_nonneg_right (by omega) a
    have h2 : 0 ≤ o * (-u) := Int.mul_nonneg on (by omega)
    have e : o * -u = -(o * u) := Int.mul_neg _ _
    omega
  · have h1 : 1 * (-v) ≤ r * (-v) := Int.mul_le_mul_of_nonneg_right (by omega) (by omega)
    have h2 : 0 ≤ o * u := Int.mul_nonneg on b
    have e : r * -v = -(r * v) := Int.mul_neg _ _
    omega
def IsInv (m x w : Int) : Prop := 0 ≤ w ∧ w < m ∧ ∃ k, w * x = 1 + k * m
theorem IsInv.of {m x u : Int} (hm : 0 < m) (h : ∃ k, u * x = 1 + k * m) : IsInv m x (u % m) := by
  obtain ⟨k, h⟩ := h
  refine ⟨Int.emod_nonneg _ (by omega), Int.emod_lt_of_pos _ hm, k - u / m * x, ?_⟩
  have e : u % m = u - m * (u / m) := by have := Int.mul_ediv_add_emod u m; omega
  rw [e]
  grind
theorem IsInv.unique {m x w z : Int} (hm : 0 < m) (h : IsInv m x w) (h' : IsInv m x z) : w = z := by
  obtain ⟨a0, a1, k, hk⟩ := h
  obtain ⟨b0, b1, l, hl⟩ := h'
  have e : w - z = m * (z * k - w * l) := by grind
  have h1 : (w - z) % m = 0 := by rw [e]; exact Int.mul_emod_right _ _
  rcases Int.lt_trichotomy w z with h | h | h
  · exfalso
    have : (w - z) % m = w - z + m := by
      have h2 : w - z = (w - z + m) + (-1) * m := by omega
      rw [h2, Int.add_mul_emod_self_right, Int.emod_eq_of_lt (by omega) (by omega)]; omega
    omega
  · exact h
  · exfalso
    rw [Int.emod_eq_of_lt (by omega) (by omega)] at h1; omega
end L2.P3
/-! zip of two sequences, each of them a list or a tuple -/
namespace L2.P3.Z
open PySem
open PySem.Sem (wp)
/-- one side of a zip: true for a tuple -/
def SIt : Bool → Heap → Addr → Addr → Nat → Prop
  | true, h, p, l, i => h.IsTupleIter p l i
  | false, h, p, l, i => h.IsListIter p l i
def SSq : Bool → Heap → Addr → Array Value → Prop
  | true, h, l, xs => h.IsTuple l xs
  | false, h, l, xs => h.IsList l xs
theorem SIt.keepAt {t : Bool} {h h' : Heap} {p l : Addr} {i : Nat} (a : SIt t h p l i) (k : ∀ o, h.get? p = some o → h'.get? p = some o) : SIt t h' p l i := by
  cases t
  · exact Heap.IsListIter.at a k
  · exact Heap.IsTupleIter.at a k
theorem SIt.but {t : Bool} {h h' : Heap} {c p l : Addr} {i : Nat} (a : SIt t h p l i) (k : Heap.ExtBut c h h') (n : p ≠ c) : SIt t h' p l i := a.keepAt fun o e => k _ _ n e
theorem SSq.but {t : Bool} {h h' : Heap} {c l : Addr} {xs : Array Value} (a : SSq t h l xs) (k : Heap.ExtBut c h h') (n : l ≠ c) : SSq t h' l xs := by
  cases t
  · exact Heap.IsList.extBut a k n
  · exact Heap.IsTuple.extBut a k n
theorem SIt.size {t : Bool} {h : Heap} {p l : Addr} {i : Nat} (a : SIt t h p l i) : p < h.objs.size := by
  cases t
  · obtain ⟨_, e, _⟩ := (a : h.IsListIter p l i); exact Heap.lt_size e
  · obtain ⟨_, e, _⟩ := (a : h.IsTupleIter p l i); exact Heap.lt_size e
section
variable {prog : Program} {w : World} {A : Around} {E : Value → Shared → Prop} {s : Shared}
theorem side_item {t : Bool} {p l : Addr} {i : Nat} {xs : Array Value} {x : Value} {Q : Value → Shared → Prop} (a : SIt t s.heap p l i) (b : SSq t s.heap l xs) (e : xs[i]? = some x)
    (q : ∀ h', SIt t h' p l (i + 1) → Heap.SameBut p s.heap h' → Q x { s with heap := h' }) : wpAny (model prog w) A (Builtin.SmallTypes.nextOf (.ref p)) Q E s := by
  cases t
  · exact wpAny_nextOf_list_item a b e q
  · exact RZ.nextOf_tuple_item a b e q
theorem side_end {t : Bool} {p l : Addr} {i : Nat} {xs : Array Value} {Q : Value → Shared → Prop} (hh : A.handled = none) (a : SIt t s.heap p l i) (b : SSq t s.heap l xs) (e : xs[i]? = none)
    (q : ∀ h' e, Heap.ExtBut p s.heap h' → (∃ o, h'.get? e = some o ∧ o.cls = .type "StopIteration") → E (.ref e) { s with heap := h' }) : wpAny (model prog w) A (Builtin.SmallTypes.nextOf (.ref p)) Q E s := by
  cases t
  · exact wpAny_nextOf_list_end hh a b e q
  · exact RZ.nextOf_tuple_end hh a b e q
/-- what stays of the heap through one turn of a zip -/
def Left (z TO i1 i2 : Addr) (h h' : Heap) : Prop := ∀ c o, c ≠ z → c ≠ TO → c ≠ i1 → c ≠ i2 → h.get? c = some o → h'.get? c = some o
/-- one turn of a zip: the pair that it makes, or the end -/
theorem zip_turn {t1 t2 : Bool} {z TI TO i1 i2 l1 l2 : Addr} {k1 k2 : Nat} {xs ys : Array Value} {a b : Value} {Q : Value → Shared → Prop} (D : ZipApart z TI TO i1 i2 l1 l2)
    (gz : IsZip s.heap z TI TO .none) (gI : IsPair s.heap TI (.ref i1) (.ref i2)) (gO : IsPair s.heap TO a b) (u1 : SIt t1 s.heap i1 l1 k1) (u2 : SIt t2 s.heap i2 l2 k2) (v1 : SSq t1 s.heap l1 xs) (v2 : SSq t2 s.heap l2 ys)
    (hh : xs[k1]? = none ∨ ys[k2]? = none → A.handled = none)
    (kQ : ∀ x y, xs[k1]? = some x → ys[k2]? = some y → ∀ h', IsZip h' z TI TO (rawInt s.heap.objs.size) → IsPair h' TO x y → SIt t1 h' i1 l1 (k1 + 1) → SIt t2 h' i2 l2 (k2 + 1) → IsPair h' s.heap.objs.size x y →
      Left z TO i1 i2 s.heap h' → Q (.ref s.heap.objs.size) { s with heap := h' })
    (kE : (xs[k1]? = none ∨ ys[k2]? = none) → ∀ h' e, Left z TO i1 i2 s.heap h' → (∃ o, h'.get? e = some o ∧ o.cls = .type "StopIteration") → E (.ref e) { s with heap := h' }) :
    wpAny (model prog w) A (Builtin.«zip.__next__» ⟨[.ref z], []⟩) (fun fin s' => ∃ v, fin = .done (.ret v) ∧ Q v s') E s := by
  refine wpAny_bind (m := field (.ref z) 2) (wpAny_field gz rfl (x := .bool false) rfl ?_)
  refine wpAny_bind (m := field (.ref z) 3) (wpAny_field gz rfl (x := .ref TI) rfl ?_)
  refine wpAny_bind (wpAny_seqItems gI rfl ?_)
  refine wpAny_bind (m := Builtin.SmallTypes.ownedTupleIsFree (.ref z)) ?_
  unfold Builtin.SmallTypes.ownedTupleIsFree
  refine wpAny_bind (wpAny_field gz rfl (x := .none) rfl (wpAny_pure ?_))
  rw [if_pos rfl]
  refine wpAny_bind (wpAny_rule (wpAny_bind (wpAny_field gz rfl (x := .ref TO) rfl ?_)))
  refine wpAny_bind (wpAny_setField_rec gz (by simp) fun m1 p1 b1 => ?_)
  have p1 : IsZip m1 z TI TO .ellipsis := p1
  have w1 : SIt t1 m1 i1 l1 k1 := u1.but b1.extBut D.i1z
  have w2 : SIt t2 m1 i2 l2 k2 := u2.but b1.extBut D.i2z
  have x1 : SSq t1 m1 l1 xs := v1.but b1.extBut D.l1z
  have x2 : SSq t2 m1 l2 ys := v2.but b1.extBut D.l2z
  have gO1 : IsPair m1 TO a b := b1.extBut _ _ D.TOz gO
  refine wpAny_bind ?_
  simp only [List.forIn_cons, List.forIn_nil, List.zipIdx_cons, List.zipIdx_nil]
  refine wpAny_bind (wpAny_bind (wpAny_onRaise (m := Builtin.SmallTypes.nextOf (.ref i1) >>= fun v => pure (some v)) ?_))
  cases ex : xs[k1]? with
  | none =>
    refine wpAny_bind (side_end (hh (.inl ex)) w1 x1 ex fun m2 e b2 se => ?_)
    have p2 : IsZip m2 z TI TO .ellipsis := b2 _ _ D.i1z.symm p1
    obtain ⟨oe, ge, ce⟩ := se
    have ne : e ≠ z := fun q => by rw [q, p2] at ge; obtain rfl := Option.some.inj ge; simp at ce
    exact wpAny_setField_rec p2 (by simp) fun m3 _ b3 => kE (.inl ex) m3 e (fun c o c1 _ c3 _ q => b3.extBut _ _ c1 (b2 _ _ c3 (b1.extBut _ _ c1 q))) ⟨oe, b3.extBut _ _ ne ge, ce⟩
  | some x =>
    refine wpAny_bind (side_item w1 x1 ex fun m2 y1 b2 => wpAny_pure ?_)
    have gO2 : IsPair m2 TO a b := b2.extBut _ _ D.TOi1 gO1
    refine wpAny_bind (wpAny_seqItems gO2 rfl (wpAny_bind (wpAny_updateSeq_pair gO2 fun m3 gO3 b3 => ?_)))
    have gO3 : IsPair m3 TO x b := gO3
    refine wpAny_bind (wpAny_letGo (wpAny_pure (wpAny_bind (wpAny_bind (wpAny_onRaise (m := Builtin.SmallTypes.nextOf (.ref i2) >>= fun v => pure (some v)) ?_)))))
    have w3 : SIt t2 m3 i2 l2 k2 := (w2.but b2.extBut D.i12.symm).but b3.extBut D.TOi2.symm
    have x3 : SSq t2 m3 l2 ys := (x2.but b2.extBut D.l2i1).but b3.extBut D.l2TO
    have p3 : IsZip m3 z TI TO .ellipsis := b3.extBut _ _ D.TOz.symm (b2.extBut _ _ D.i1z.symm p1)
    have y3 : SIt t1 m3 i1 l1 (k1 + 1) := y1.but b3.extBut D.TOi1.symm
    have up3 : ∀ c o, c ≠ z → c ≠ TO → c ≠ i1 → s.heap.get? c = some o → m3.get? c = some o := fun c o c1 c2 c3 q => b3.extBut _ _ c2 (b2.extBut _ _ c3 (b1.extBut _ _ c1 q))
    cases ey : ys[k2]? with
    | none =>
      refine wpAny_bind (side_end (hh (.inr ey)) w3 x3 ey fun m4 e b4 se => ?_)
      have p4 : IsZip m4 z TI TO .ellipsis := b4 _ _ D.i2z.symm p3
      obtain ⟨oe, ge, ce⟩ := se
      have ne : e ≠ z := fun q => by rw [q, p4] at ge; obtain rfl := Option.some.inj ge; simp at ce
      exact wpAny_setField_rec p4 (by simp) fun m5 _ b5 => kE (.inr ey) m5 e (fun c o c1 c2 c3 c4 q => b5.extBut _ _ c1 (b4 _ _ c4 (up3 c o c1 c2 c3 q))) ⟨oe, b5.extBut _ _ ne ge, ce⟩
    | some y =>
      refine wpAny_bind (side_item w3 x3 ey fun m4 y2 b4 => wpAny_pure ?_)
      have gO4 : IsPair m4 TO x b := b4.extBut _ _ D.TOi2 gO3
      refine wpAny_bind (wpAny_seqItems gO4 rfl (wpAny_bind (wpAny_updateSeq_pair gO4 fun m5 gO5 b5 => ?_)))
      have gO5 : IsPair m5 TO x y := gO5
      refine wpAny_bind (wpAny_letGo (wpAny_pure (wpAny_pure (wpAny_bind (wpAny_seqItems gO5 rfl (wpAny_bind (wpAny_newTuple ?_)))))))
      have sz5 : m5.objs.size = s.heap.objs.size := by rw [b5.1, b4.1, b3.1, b2.1, b1.1]
      have p5 : IsZip m5 z TI TO .ellipsis := b5.extBut _ _ D.TOz.symm (b4.extBut _ _ D.i2z.symm p3)
      have y15 : SIt t1 m5 i1 l1 (k1 + 1) := (y3.but b4.extBut D.i12).but b5.extBut D.TOi1.symm
      have y25 : SIt t2 m5 i2 l2 (k2 + 1) := y2.but b5.extBut D.TOi2.symm
      have up5 : Left z TO i1 i2 s.heap m5 := fun c o c1 c2 c3 c4 q => b5.extBut _ _ c2 (b4.extBut _ _ c4 (up3 c o c1 c2 c3 q))
      refine wpAny_bind (m := Builtin.SmallTypes.ownedTupleHandOut (.ref z) (.ref m5.objs.size)) ?_
      unfold Builtin.SmallTypes.ownedTupleHandOut
      have p6 : IsZip (m5.push { cls := .type "tuple", data := .seq #[x, y] }) z TI TO .ellipsis := Heap.get?_push_of_some _ p5
      refine wpAny_bind (wpAny_setField_rec p6 (by simp) fun m7 p7 b7 => ?_)
      have p7 : IsZip m7 z TI TO (rawInt m5.objs.size) := p7
      refine wpAny_setField_rec p7 (by simp) fun m8 p8 b8 => wpAny_pure ⟨_, rfl, ?_⟩
      have p8 : IsZip m8 z TI TO (rawInt m5.objs.size) := p8
      have nz : m5.objs.size ≠ z := Nat.ne_of_gt (Heap.lt_size p5)
      have up8 : ∀ c o, c ≠ z → m5.get? c = some o → m8.get? c = some o := fun c o c1 q => b8.extBut _ _ c1 (b7.extBut _ _ c1 (Heap.get?_push_of_some _ q))
      have new : IsPair m8 m5.objs.size x y := b8.extBut _ _ nz (b7.extBut _ _ nz (Heap.get?_push_size _ rfl))
      rw [sz5] at p8 new
      show Q (.ref m5.objs.size) _
      rw [sz5]
      exact kQ x y ex ey m8 p8 (up8 _ _ D.TOz gO5) (y15.keepAt fun o q => up8 _ o D.i1z q) (y25.keepAt fun o q => up8 _ o D.i2z q) new fun c o c1 c2 c3 c4 q => up8 c o c1 (up5 c o c1 c2 c3 c4 q)
theorem next_pair {t1 t2 : Bool} {z TI TO i1 i2 l1 l2 : Addr} {k1 k2 : Nat} {xs ys : Array Value} {a b x y : Value} {Q : Option Value → Shared → Prop} (D : ZipApart z TI TO i1 i2 l1 l2)
    (gz : IsZip s.heap z TI TO .none) (gI : IsPair s.heap TI (.ref i1) (.ref i2)) (gO : IsPair s.heap TO a b) (u1 : SIt t1 s.heap i1 l1 k1) (u2 : SIt t2 s.heap i2 l2 k2) (v1 : SSq t1 s.heap l1 xs) (v2 : SSq t2 s.heap l2 ys)
    (ex : xs[k1]? = some x) (ey : ys[k2]? = some y)
    (kQ : ∀ h', IsZip h' z TI TO (rawInt s.heap.objs.size) → IsPair h' TO x y → SIt t1 h' i1 l1 (k1 + 1) → SIt t2 h' i2 l2 (k2 + 1) → IsPair h' s.heap.objs.size x y → Left z TO i1 i2 s.heap h' → Q (some (.ref s.heap.objs.size)) { s with heap := h' }) :
    wpAny (model prog w) A (pyNext (.ref z)) Q E s := by
  have ty : s.TypeIs (.ref z) "zip" := ⟨_, gz, rfl⟩
  unfold pyNext
  refine wpAny_bind (wpAny_attempt (wpAny_callSpecial?_slot (name := Str.ofString "__next__") ty F.slot_zip_next (wpAny_call_entry F.slot_zip_next ty F.entry_zip_next ?_ (F.args_zip_next_1 _))))
  refine zip_turn D gz gI gO u1 u2 v1 v2 (fun h => ?_) (fun x' y' ex' ey' h' c1 c2 c3 c4 c5 c6 => ?_) (fun h => ?_)
  · rw [ex, ey] at h; rcases h with h | h <;> cases h
  · rw [ex] at ex'; rw [ey] at ey'
    obtain rfl := Option.some.inj ex'
    obtain rfl := Option.some.inj ey'
    exact wpAny_pure (kQ h' c1 c2 c3 c4 c5 c6)
  · rw [ex, ey] at h; rcases h with h | h <;> cases h
theorem next_none {t1 t2 : Bool} {z TI TO i1 i2 l1 l2 : Addr} {k1 k2 : Nat} {xs ys : Array Value} {a b : Value} {Q : Option Value → Shared → Prop} (hh : A.handled = none) (D : ZipApart z TI TO i1 i2 l1 l2)
    (gz : IsZip s.heap z TI TO .none) (gI : IsPair s.heap TI (.ref i1) (.ref i2)) (gO : IsPair s.heap TO a b) (u1 : SIt t1 s.heap i1 l1 k1) (u2 : SIt t2 s.heap i2 l2 k2) (v1 : SSq t1 s.heap l1 xs) (v2 : SSq t2 s.heap l2 ys)
    (en : xs[k1]? = none ∨ ys[k2]? = none) (kE : ∀ h', Left z TO i1 i2 s.heap h' → Q none { s with heap := h' }) : wpAny (model prog w) A (pyNext (.ref z)) Q E s := by
  have ty : s.TypeIs (.ref z) "zip" := ⟨_, gz, rfl⟩
  unfold pyNext
  refine wpAny_bind (wpAny_attempt (wpAny_callSpecial?_slot (name := Str.ofString "__next__") ty F.slot_zip_next (wpAny_call_entry F.slot_zip_next ty F.entry_zip_next ?_ (F.args_zip_next_1 _))))
  refine zip_turn D gz gI gO u1 u2 v1 v2 (fun _ => hh) (fun x y ex ey => ?_) (fun _ h' e lf se => ?_)
  · rw [ex, ey] at en; rcases en with h | h <;> cases h
  · obtain ⟨o, go, co⟩ := se
    exact wpAny_bind (wpAny_isInstance (T := "StopIteration") (b := true) ⟨o, go, co⟩ isSubtype_stop (wpAny_pure (kE h' lf)))
end
end L2.P3.Z

/-! ### zip for the hand layer -/
namespace L2.P3
open PySem PySem.Spec PyProof.Rows L2 L2.P3.Z
def SqS (K : PySem.W.Frag) (H : Hp) : Bool → Addr → List V → Prop
  | true, a, xs => SqT K H a xs
  | false, a, xs => SqL K H a xs
/-- the sequences at a and b, side by side, as they stand at each turn -/
def ItzS (K : PySem.W.Frag) (t1 t2 : Bool) (a b : Addr) : It where
  go i H := ∃ (xs ys : List V) (x y : V), SqS K H t1 a xs ∧ SqS K H t2 b ys ∧ xs[i]? = some x ∧ ys[i]? = some y
  yld i H v H' := ∃ T x y, v = .ref T ∧ H T = none ∧ H' = upd H T (.tup [x, y]) ∧ (∀ xs, SqS K H t1 a xs → xs[i]? = some x) ∧ ∀ ys, SqS K H t2 b ys → ys[i]? = some y
  stop i H := ∃ xs ys : List V, SqS K H t1 a xs ∧ SqS K H t2 b ys ∧ (xs.length ≤ i ∨ ys.length ≤ i)
section
variable {X : Cx} {pins : List (Addr × Obj)} {σ : L2.St} {H : Hp} {s : Shared} {a : Addr} {xs ys : List V}
theorem inv_side (t : Bool) (I : Inv X pins σ H s) (h : SqS X.K H t a xs) : ∃ us : List Value, Vals xs us ∧ SSq t s.heap a us.toArray ∧ a < s.heap.objs.size := by
  cases t
  · obtain ⟨us, r, p, _⟩ := I.list h
    exact ⟨us, r, p.isList, p.lt⟩
  · obtain ⟨us, r, p, _⟩ := I.tuple h
    obtain ⟨o, e, _⟩ := id p
    exact ⟨us, r, p, Heap.lt_size e⟩
theorem side_inj {t : Bool} (I : Inv X pins σ H s) (h : SqS X.K H t a xs) (h' : SqS X.K H t a ys) : xs = ys := by
  cases t
  · exact I.list_inj h h'
  · exact I.tuple_inj h h'
end
theorem SIt.cells {t : Bool} {h : Heap} {p l : Addr} {i : Nat} (a : SIt t h p l i) : ∃ o, h.get? p = some o ∧ ∀ v, o.data ≠ .cell v := by
  cases t
  · obtain ⟨o, e, _, d⟩ := (a : h.IsListIter p l i); exact ⟨o, e, fun v q => by rw [d] at q; cases q⟩
  · obtain ⟨o, e, _, d⟩ := (a : h.IsTupleIter p l i); exact ⟨o, e, fun v q => by rw [d] at q; cases q⟩
theorem five {c z TI TO i1 i2 : Addr} (h : c ∈ [z, TI, TO, i1, i2]) : c = z ∨ c = TI ∨ c = TO ∨ c = i1 ∨ c = i2 := by simpa using h
theorem not_five {c z TI TO i1 i2 : Addr} (h : c ∉ [z, TI, TO, i1, i2]) : c ≠ z ∧ c ≠ TI ∧ c ≠ TO ∧ c ≠ i1 ∧ c ≠ i2 := by simpa using h
theorem zip_turns {P : Program} {w : World} {K : PySem.W.Frag} {es : List Expr} {q : Nat} {p : Pos} {t1 t2 : Bool} {a b z TI TO i1 i2 : Addr} (D : ZipApart z TI TO i1 i2 a b) :
    Turn P w K (.Tuple es q p) (ItzS K t1 t2 a b) [z, TI, TO, i1, i2] z (fun i h => IsZip h z TI TO .none ∧ IsPair h TI (.ref i1) (.ref i2) ∧ (∃ x y, IsPair h TO x y) ∧ SIt t1 h i1 a i ∧ SIt t2 h i2 b i) where
  mem := by simp
  self := fun _ _ _ _ _ st h => wpAny_pyIter_zip st.1 h
  keep := fun i h h' ⟨gz, gI, ⟨x, y, gO⟩, u1, u2⟩ k => ⟨k z (by simp) _ gz, k TI (by simp) _ gI, ⟨x, y, k TO (by simp) _ gO⟩, u1.keepAt fun o e => k i1 (by simp) o e, u2.keepAt fun o e => k i2 (by simp) o e⟩
  obj := fun i h ⟨gz, gI, ⟨x, y, gO⟩, u1, u2⟩ c hc => by
    rcases five hc with e | e | e | e | e <;> subst e
    · exact ⟨_, gz, fun v q => by cases q⟩
    · exact ⟨_, gI, fun v q => by cases q⟩
    · exact ⟨_, gO, fun v q => by cases q⟩
    · exact SIt.cells u1
    · exact SIt.cells u2
  item := by
    rintro X rfl rfl rfl hc i pins s σ H E I hf ⟨gz, gI, ⟨x0, y0, gO⟩, u1, u2⟩ ⟨xs, ys, x, y, qx, qy, ex, ey⟩
    obtain ⟨us, ru, v1, _⟩ := inv_side t1 I qx
    obtain ⟨ws, rw', v2, _⟩ := inv_side t2 I qy
    obtain ⟨u, eu, r1⟩ := ru.get ex
    obtain ⟨v, ev, r2⟩ := rw'.get ey
    have zl : z < s.heap.objs.size := Heap.lt_size gz
    refine next_pair D gz gI gO u1 u2 v1 v2 (x := u) (y := v) (by simpa using eu) (by simpa using ev) fun h1 c1 c2 c3 c4 c5 c6 => ?_
    refine ⟨_, rfl, wpAny_letOwnedTupleGo_zip (s := { s with heap := h1 }) c1 fun h2 d1 sb => ?_⟩
    have new2 : h2.get? s.heap.objs.size = some { cls := .type "tuple", data := .seq #[u, v] } := (sb.2 _ (Nat.ne_of_gt zl)).trans c5
    have two : ObjOk X.prog X.w (upd H s.heap.objs.size (.tup [x, y])) h2 s.heap.objs.size (.tup [x, y]) := ⟨by show 2 ≤ sizeLine; decide, [u, v], .cons r1 (.cons r2 .nil), _, new2, rfl, _, rfl⟩
    refine ⟨.ref s.heap.objs.size, _, I.turnedNew (t' := s.toks) (ch := [z, TI, TO, i1, i2]) (fun c o hb e => ?_) hf (Nat.le_refl _) two, rfl, ?_, ?_, fun c hm => ?_⟩
    · obtain ⟨n1, n2, n3, n4, n5⟩ := not_five hb
      exact (sb.2 c n1).trans (c6 c o n1 n3 n4 n5 e)
    · exact ⟨_, x, y, rfl, I.hok.fresh (Nat.le_refl _), rfl, fun l e => by rw [side_inj I e qx]; exact ex, fun l e => by rw [side_inj I e qy]; exact ey⟩
    · refine ⟨d1, (sb.2 _ D.TIz).trans (c6 _ _ D.TIz D.TITO D.TIi1 D.TIi2 gI), ⟨u, v, (sb.2 _ D.TOz).trans c2⟩, c3.keepAt fun o e => (sb.2 _ D.i1z).trans e, c4.keepAt fun o e => (sb.2 _ D.i2z).trans e⟩
    · have lt : c < s.heap.objs.size := by
        rcases five hm with e | e | e | e | e <;> subst e
        · exact zl
        · exact Heap.lt_size gI
        · exact Heap.lt_size gO
        · exact u1.size
        · exact u2.size
      rw [upd_ne (Nat.ne_of_lt lt)]
      exact (hf c hm).1
  done := by
    rintro X rfl rfl rfl hc i pins s σ H E I hf ⟨gz, gI, ⟨x0, y0, gO⟩, u1, u2⟩ ⟨xs, ys, qx, qy, en⟩
    obtain ⟨us, ru, v1, _⟩ := inv_side t1 I qx
    obtain ⟨ws, rw', v2, _⟩ := inv_side t2 I qy
    have l1 := ru.length
    have l2 := rw'.length
    refine next_none (I.ok.hd hc) D gz gI gO u1 u2 v1 v2 ?_ fun h1 lf => ⟨rfl, I.turnedL (t' := s.toks) (ch := [z, TI, TO, i1, i2]) (fun c o hb e => ?_) hf⟩
    · rcases en with e | e
      · exact .inl (by simp; omega)
      · exact .inr (by simp; omega)
    · obtain ⟨n1, n2, n3, n4, n5⟩ := not_five hb
      exact lf c o n1 n3 n4 n5 e
end L2.P3

/-! ### the call of zip -/
namespace L2.P3.Z
open PySem PySem.Spec PyProof.Rows L2
def sideObj : Bool → Addr → Obj
  | true, l => { cls := .type "tuple_iterator", data := .fields #[.ref l, .int 0 0] }
  | false, l => { cls := .type "list_iterator", data := .fields #[.ref l, .int 0 0] }
theorem side_live (t : Bool) (l : Addr) : (sideObj t l).isFreed = false := by cases t <;> rfl
section
variable {prog : Program} {w : World} {A : Around} {E : Value → Shared → Prop} {s : Shared}
theorem side_iter {t : Bool} {l : Addr} {us : Array Value} {Q : Value → Shared → Prop} (v : SSq t s.heap l us) (q : Q (.ref s.heap.objs.size) { s with heap := s.heap.push (sideObj t l) }) : wpAny (model prog w) A (pyIter (.ref l)) Q E s := by
  cases t
  · exact wpAny_pyIter_list v q
  · exact wpAny_pyIter_tuple v q
theorem SIt.start {t : Bool} {h : Heap} {p l : Addr} (e : h.get? p = some (sideObj t l)) : SIt t h p l 0 := by
  cases t
  · exact ⟨_, e, rfl, rfl⟩
  · exact ⟨_, e, rfl, rfl⟩
theorem SSq.push {t : Bool} {h : Heap} {l : Addr} {us : Array Value} (v : SSq t h l us) (o : Obj) : SSq t (h.push o) l us := by
  cases t
  · exact Heap.IsList.push v o
  · exact Heap.IsTuple.push v o
abbrev zA (t1 : Bool) (l1 : Addr) (h : Heap) : Heap := h.push (sideObj t1 l1)
abbrev zB (t1 t2 : Bool) (l1 l2 : Addr) (h : Heap) : Heap := (zA t1 l1 h).push (sideObj t2 l2)
abbrev zC (t1 t2 : Bool) (l1 l2 : Addr) (h : Heap) : Heap := (zB t1 t2 l1 l2 h).push { data := .seq #[.ref h.objs.size, .ref (zA t1 l1 h).objs.size], cls := .type "tuple" }
abbrev zD (t1 t2 : Bool) (l1 l2 : Addr) (h : Heap) : Heap := (zC t1 t2 l1 l2 h).push { data := .seq #[.none, .none], cls := .type "tuple" }
abbrev zE (t1 t2 : Bool) (l1 l2 : Addr) (h : Heap) : Heap := (zD t1 t2 l1 l2 h).push { data := .fields #[.none, .bool false, .bool false, .ref (zB t1 t2 l1 l2 h).objs.size, .ref (zC t1 t2 l1 l2 h).objs.size], cls := .type "zip" }
theorem zip_born (t1 t2 : Bool) (l1 l2 : Addr) (us vs : Array Value) :
    Meets (Builtin.«zip.__new__» ⟨[.type "zip", .ref l1, .ref l2], []⟩) (fun _ R s => SSq t1 s.heap l1 us ∧ SSq t2 s.heap l2 vs ∧ R (.ok (.ret (.ref (zD t1 t2 l1 l2 s.heap).objs.size))) { s with heap := zE t1 t2 l1 l2 s.heap }) :=
  .of_wp fun prog w A R s q => by
    obtain ⟨hp, gl, dd, tk, oss⟩ := s
    obtain ⟨v1, v2, q⟩ := q
    have sz := sub_zip
    have w1 : SSq t1 (Shared.heap ⟨hp, gl, dd, tk, oss⟩) l1 us := v1
    have w2 : SSq t2 (Shared.heap ⟨hp.push (sideObj t1 l1), gl, dd, tk, oss⟩) l2 vs := SSq.push v2 _
    wp_walk using side_iter w1, side_iter w2
    exact ⟨_, rfl, q⟩
theorem zip_call {t1 t2 : Bool} {l1 l2 : Addr} {us vs : Array Value} {Q : Value → Shared → Prop} (v1 : SSq t1 s.heap l1 us) (v2 : SSq t2 s.heap l2 vs)
    (k : ∀ h', IsZip h' (s.heap.objs.size + 4) (s.heap.objs.size + 2) (s.heap.objs.size + 3) .none → IsPair h' (s.heap.objs.size + 2) (.ref s.heap.objs.size) (.ref (s.heap.objs.size + 1)) → IsPair h' (s.heap.objs.size + 3) .none .none →
      SIt t1 h' s.heap.objs.size l1 0 → SIt t2 h' (s.heap.objs.size + 1) l2 0 → (∀ c o, s.heap.get? c = some o → h'.get? c = some o) → Q (.ref (s.heap.objs.size + 4)) { s with heap := h' }) :
    wpAny (model prog w) A (call (.type "zip") [.ref l1, .ref l2]) Q E s := by
  refine callType_new F.called_zip (by decide) (F.typeCall_zip_2 _ _) (F.newCall_zip_2 _ _) (fun ob => F.args_object_init_3 ob _ _) F.entry_zip_new (zip_born t1 t2 l1 l2 us vs) ⟨v1, v2, ?_⟩
  have nA : (zA t1 l1 s.heap).objs.size = s.heap.objs.size + 1 := Heap.size_push ..
  have nB : (zB t1 t2 l1 l2 s.heap).objs.size = s.heap.objs.size + 2 := (Heap.size_push ..).trans (by rw [nA])
  have nC : (zC t1 t2 l1 l2 s.heap).objs.size = s.heap.objs.size + 3 := (Heap.size_push ..).trans (by rw [nB])
  have nD : (zD t1 t2 l1 l2 s.heap).objs.size = s.heap.objs.size + 4 := (Heap.size_push ..).trans (by rw [nC])
  have up : ∀ {h : Heap} {o : Obj} {c : Addr} {r : Obj}, h.get? c = some r → (h.push o).get? c = some r := fun e => Heap.get?_push_of_some _ e
  have e5 : (zE t1 t2 l1 l2 s.heap).get? (zD t1 t2 l1 l2 s.heap).objs.size = some _ := Heap.get?_push_size _ rfl
  have e4 : (zE t1 t2 l1 l2 s.heap).get? (zC t1 t2 l1 l2 s.heap).objs.size = some _ := up (Heap.get?_push_size _ rfl)
  have e3 : (zE t1 t2 l1 l2 s.heap).get? (zB t1 t2 l1 l2 s.heap).objs.size = some _ := up (up (Heap.get?_push_size _ rfl))
  have e2 : (zE t1 t2 l1 l2 s.heap).get? (zA t1 l1 s.heap).objs.size = some _ := up (up (up (Heap.get?_push_size _ (side_live t2 l2))))
  have e1 : (zE t1 t2 l1 l2 s.heap).get? s.heap.objs.size = some _ := up (up (up (up (Heap.get?_push_size _ (side_live t1 l1)))))
  show _ ∧ _
  rw [nB, nC, nD] at e5
  rw [nA, nB] at e3
  rw [nC] at e4
  rw [nA] at e2
  rw [nD]
  exact ⟨⟨_, e5, rfl⟩, k _ e5 e3 e4 (.start e1) (.start e2) fun c o q => up (up (up (up (up q))))⟩
end
end L2.P3.Z

/-! ### a walk over two sequences side by side -/
namespace L2.P3
open PySem PySem.Spec PyProof.Rows L2 L2.P3.Z
def iZipS (K : PySem.W.Frag) (ta : TA) : TI := fun σ H R => ta σ H fun vs H1 => ∃ t1 t2 a b xs ys, vs = [.ref a, .ref b] ∧ SqS K H1 t1 a xs ∧ SqS K H1 t2 b ys ∧ R (ItzS K t1 t2 a b) H1
theorem five_new {n c : Addr} (h : c ∈ [n + 4, n + 2, n + 3, n, n + 1]) : n ≤ c := by
  rcases five h with e | e | e | e | e <;> subst e
  · exact Nat.le_add_right _ _
  · exact Nat.le_add_right _ _
  · exact Nat.le_add_right _ _
  · exact Nat.le_refl _
  · exact Nat.le_add_right _ _
theorem pi_zipS {X : Cx} {e e2 : Expr} {ta : TA} {p pos tp : Pos} {es : List Expr} {q : Nat} (hg : Gl X "zip") (hm : X.mg "zip" = none) (ha : PA X [e, e2] ta)
    (hs : starEach [e, e2] X.env = (false, eval e X.env) :: starEach [e2] X.env := by rfl) (hb : (backTo pos (starEach [e2] X.env)).any (·.1) = false := by rfl) :
    PI X (.Tuple es q tp) (.Call (.Name "zip" p) [e, e2] [] pos) (iZipS X.K ta) := by
  refine ⟨fun pins s σ H R I h => Call_ (ld_blt I hg hm PyProof.Rows.boot_zip (PyProof.Rows.callWith_type1 (thn (ha.run pos pins s σ H _ I h) fun us s1 ⟨vs, H1, I1, r1, q1⟩ => ?_) hs hb))⟩
  obtain ⟨t1, t2, a, b, xs, ys, rfl, qx, qy, q⟩ := q1
  obtain ⟨u, us, rfl, ra, r1⟩ : ∃ u us', us = u :: us' ∧ RelV (.ref a) u ∧ Vals [.ref b] us' := by cases r1 with | cons r rr => exact ⟨_, _, rfl, r, rr⟩
  obtain ⟨v, rfl, rb⟩ : ∃ v, us = [v] ∧ RelV (.ref b) v := by cases r1 with | cons r rr => cases rr; exact ⟨_, rfl, r⟩
  cases ra
  cases rb
  obtain ⟨vx, _, p1, l1⟩ := inv_side t1 I1 qx
  obtain ⟨vy, _, p2, l2⟩ := inv_side t2 I1 qy
  refine zip_call p1 p2 fun h' gz gI gO u1 u2 kp => wpAny_pyIter_zip gz ⟨_, _, _, _, H1, rfl, I1.kept (t' := s1.toks) kp, zip_turns (PySem.W.ktu_apart s1.heap.objs.size a b l1 l2), ⟨gz, gI, ⟨_, _, gO⟩, u1, u2⟩, fun c hm => ?_, q⟩
  exact I1.fpOk (five_new hm) (I1.hok.fresh (five_new hm))
/-- a value's items -/
def its (S : Store) : PV → Option (List PV)
  | .lst n => S[n]?
  | .rol xs => some xs
  | .tup xs => some xs
  | _ => none
def isTup : PV → Bool
  | .tup _ => true
  | _ => false
def pairs (xs ys : List PV) : List PV := List.zipWith (fun a b => PV.tup [a, b]) xs ys
theorem pairs_get {xs ys : List PV} {k : Nat} {z : PV} (h : (pairs xs ys)[k]? = some z) : ∃ a b, xs[k]? = some a ∧ ys[k]? = some b ∧ z = .tup [a, b] := by
  unfold pairs at h
  rw [List.getElem?_zipWith] at h
  cases hx : xs[k]? with
  | none => rw [hx] at h; cases h
  | some a =>
    cases hy : ys[k]? with
    | none => rw [hx, hy] at h; cases h
    | some b => rw [hx, hy] at h; exact ⟨a, b, rfl, rfl, (Option.some.inj h).symm⟩
theorem pairs_end {xs ys : List PV} {k : Nat} (h : (pairs xs ys)[k]? = none) : xs.length ≤ k ∨ ys.length ≤ k := by
  unfold pairs at h
  rw [List.getElem?_eq_none_iff, List.length_zipWith] at h
  omega
section
variable {bk : BagKind} {K : PySem.W.Frag} {M : Am} {S : Store} {H : Hp}
theorem its_side {x : PV} {v : V} {xs : List PV} (s : Sto K bk M S H) (r : Rp K bk.root M H x v) (e : its S x = some xs) : ∃ a vs, v = .ref a ∧ SqS K H (isTup x) a vs ∧ Rps K bk.root M H xs vs := by
  cases x <;> first | cases e | skip
  · obtain ⟨a, vs, rfl, fz, rs⟩ := rp_tup r
    exact ⟨a, vs, rfl, fz, rs⟩
  · obtain ⟨a, ea, rfl⟩ := rp_lst r
    obtain ⟨vs, eh, rs⟩ := s.lst ea e
    exact ⟨a, vs, rfl, SqL.of eh, rs⟩
  · obtain ⟨a, vs, rfl, fz, rs⟩ := rp_rol r
    exact ⟨a, vs, rfl, fz.sq, rs⟩
theorem itok_zip {M1 : Am} {S1 : Store} {H1 : Hp} {x y : PV} {a b : Addr} {xs ys : List PV} (s1 : Sto K bk M1 S1 H1) (rx : Rp K bk.root M1 H1 x (.ref a)) (ry : Rp K bk.root M1 H1 y (.ref b)) :
    ItOk bk K ⟨pairs xs ys, fun S => its S x = some xs ∧ its S y = some ys⟩ (ItzS K (isTup x) (isTup y) a b) M1 H1 := fun M S H k t s ck => by
  obtain ⟨a', vs, ea, qx, rxs⟩ := its_side s (rx.step s1 t) ck.1
  obtain ⟨b', ws, eb, qy, rys⟩ := its_side s (ry.step s1 t) ck.2
  cases ea
  cases eb
  refine ⟨fun z e => ?_, fun e => ⟨vs, ws, qx, qy, ?_⟩⟩
  · obtain ⟨p, q, ep, eq, rfl⟩ := pairs_get e
    obtain ⟨u, eu, ru⟩ := rxs.get ep
    obtain ⟨v, ev, rv⟩ := rys.get eq
    refine ⟨⟨vs, ws, u, v, qx, qy, eu, ev⟩, fun v' H' yl => ?_⟩
    obtain ⟨T, p', q', rfl, hT, rfl, f1, f2⟩ := yl
    have g1 := f1 vs qx
    have g2 := f2 ws qy
    rw [eu] at g1
    rw [ev] at g2
    obtain rfl := Option.some.inj g1
    obtain rfl := Option.some.inj g2
    exact ⟨Step.laid hT, s.laid hT, to_tup (SqT.of upd_same) ((Rps.cons ru (.cons rv .nil)).step s (Step.laid hT))⟩
  · rw [rxs.length, rys.length]
    exact pairs_end e
end
def iZip (f g : PTE) : PTI := fun E ρ S R => f E ρ S fun x S1 => g E ρ S1 fun y S2 => onO (its S2 x) fun xs => onO (its S2 y) fun ys => R ⟨pairs xs ys, fun S => its S x = some xs ∧ its S y = some ys⟩ S2
instance {f g : PTE} [MoE f] [MoE g] : MoI (iZip f g) := ⟨fun h q => MoE.mo (f := f) (fun x _ q => MoE.mo (f := g) (fun y _ q => onO_mo (fun _ q => onO_mo (fun _ q => h _ _ q) q) q) q) q⟩
theorem qi_zip {bk : BagKind} {X : Cx} {h h2 : PTE} {a b : Expr} {p pos tp : Pos} {es : List Expr} {c : Nat} (hg : Gl X "zip") (hm : X.mg "zip" = none) (ha : QE bk X a h) (hb : QE bk X b h2)
    (he : starEach [a, b] X.env = (false, eval a X.env) :: starEach [b] X.env := by rfl) (he2 : starEach (b :: []) X.env = (false, eval b X.env) :: starEach [] X.env := by rfl) (hbk : (backTo pos (starEach [b] X.env)).any (·.1) = false := by rfl) :
    QI bk X (.Tuple es c tp) (.Call (.Name "zip" p) [a, b] [] pos) (iZip h h2) := by
  obtain ⟨ta, pa, wa⟩ := ha.ex
  obtain ⟨tb, pb, wb⟩ := hb.ex
  refine ⟨_, pi_zipS hg hm (pa_cons pa (pa_cons pb pa_nil he2) he) he hbk, fun E M ρ S σ H R R' rel q k => ?_⟩
  refine wa E M ρ S σ H _ _ rel q fun M1 S1 H1 x v t1 s1 r1 q1 => ?_
  refine wb E M1 ρ S1 σ H1 _ _ (rel.step t1 s1) q1 fun M2 S2 H2 y w t2 s2 r2 q2 => ?_
  obtain ⟨xs, ex, q2⟩ := onO_ex q2
  obtain ⟨ys, ey, q2⟩ := onO_ex q2
  have r1' := r1.step s1 t2
  obtain ⟨a, vs, rfl, qx, _⟩ := its_side s2 r1' ex
  obtain ⟨b, ws, rfl, qy, _⟩ := its_side s2 r2 ey
  exact ⟨_, _, a, b, vs, ws, rfl, qx, qy, k M2 S2 H2 _ _ (t1.trans t2) s2 (itok_zip s2 r1' r2) q2⟩
end L2.P3
/-! sums, choices, differences, the engine's line -/
namespace L2.P3
open PySem PySem.Spec PyProof.Rows

/-! ### sums over places -/
def sig : Nat → (Nat → Rat) → Rat
  | 0, _ => 0
  | n + 1, f => sig n f + f n
theorem sig_congr {f g : Nat → Rat} : ∀ {n : Nat}, (∀ i, i < n → f i = g i) → sig n f = sig n g
  | 0, _ => rfl
  | n + 1, h => by rw [sig, sig, sig_congr fun i hi => h i (by omega), h n (by omega)]
theorem sig_add (f g : Nat → Rat) : ∀ n : Nat, sig n (fun i => f i + g i) = sig n f + sig n g
  | 0 => by rw [sig, sig, sig]; grind
  | n + 1 => by rw [sig, sig, sig, sig_add f g n]; grind
theorem sig_mul (c : Rat) (f : Nat → Rat) : ∀ n : Nat, sig n (fun i => c * f i) = c * sig n f
  | 0 => by simp [sig]
  | n + 1 => by rw [sig, sig, sig_mul c f n]; grind
theorem sig_zero : ∀ n : Nat, sig n (fun _ => 0) = 0
  | 0 => rfl
  | n + 1 => by rw [sig, sig_zero n]; grind
theorem sig_front (f : Nat → Rat) : ∀ n : Nat, sig (n + 1) f = f 0 + sig n (fun i => f (i + 1))
  | 0 => by rw [sig, sig, sig]; grind
  | n + 1 => by
    have h := sig_front f n
    rw [show sig (n + 1 + 1) f = sig (n + 1) f + f (n + 1) from rfl, h, show sig (n + 1) (fun i => f (i + 1)) = sig n (fun i => f (i + 1)) + f (n + 1) from rfl]
    grind
theorem sig_sub (f g : Nat → Rat) : ∀ n : Nat, sig n (fun i => f i - g i) = sig n f - sig n g
  | 0 => by rw [sig, sig, sig]; grind
  | n + 1 => by rw [sig, sig, sig, sig_sub f g n]; grind

/-! ### choices -/
/-- n (n - 1) .. (n - j + 1) -/
def ffall (n : Int) : Nat → Int
  | 0 => 1
  | j + 1 => ffall n j * (n - j)
def facti : Nat → Int
  | 0 => 1
  | j + 1 => facti j * (j + 1)
theorem facti_pos : ∀ j : Nat, 0 < facti j
  | 0 => by decide
  | j + 1 => Int.mul_pos (facti_pos j) (by omega)
theorem ffall_front (n : Int) : ∀ j : Nat, ffall (n + 1) (j + 1) = (n + 1) * ffall n j
  | 0 => by simp [ffall]
  | j + 1 => by
    rw [ffall, ffall_front n j, ffall]
    have : n + 1 - ((j + 1 : Nat) : Int) = n - j := by omega
    rw [this]; grind
theorem ffall_diff (n : Int) (j : Nat) : ffall (n + 1) (j + 1) = ffall n (j + 1) + (j + 1) * ffall n j := by
  rw [ffall_front, ffall]; grind
theorem ffall_zero : ∀ j : Nat, ffall 0 (j + 1) = 0
  | 0 => by decide
  | j + 1 => by rw [ffall, ffall_zero j]; simp
theorem int_all {P : Int → Prop} (h0 : P 0) (up : ∀ n, P n → P (n + 1)) (down : ∀ n, P (n + 1) → P n) (n : Int) : P n := by
  have h1 : ∀ k : Nat, P (k : Int) := fun k => by
    induction k with
    | zero => exact h0
    | succ k ih => exact up _ ih
  have h2 : ∀ k : Nat, P (-(k : Int)) := fun k => by
    induction k with
    | zero => exact h0
    | succ k ih =>
      refine down _ ?_
      rw [show (-((k + 1 : Nat) : Int)) + 1 = -(k : Int) by omega]
      exact ih
  rcases Int.le_total 0 n with h | h
  · have := h1 n.toNat; rwa [Int.toNat_of_nonneg h] at this
  · have := h2 (-n).toNat; rwa [Int.toNat_of_nonneg (by omega), Int.neg_neg] at this
theorem fact_dvd (j : Nat) : ∀ n : Int, facti j ∣ ffall n j := by
  induction j with
  | zero => exact fun n => ⟨ffall n 0, by simp [facti]⟩
  | succ j ih =>
    have step : ∀ n : Int, facti (j + 1) ∣ (j + 1) * ffall n j := fun n => by
      obtain ⟨c, hc⟩ := ih n
      exact ⟨c, by rw [hc, facti]; grind⟩
    refine int_all ?_ (fun n h => ?_) (fun n h => ?_)
    · rw [ffall_zero]; exact Int.dvd_zero _
    · rw [ffall_diff]; exact Int.dvd_add h (step n)
    · rw [ffall_diff] at h; exact (Int.dvd_add_left (step n)).mp h
/-- the number of choices, for whole n of either sign -/
def bin (n : Int) (j : Nat) : Int := ffall n j / facti j
theorem bin_mul (n : Int) (j : Nat) : facti j * bin n j = ffall n j := Int.mul_ediv_cancel' (fact_dvd j n)
theorem bin_next (n : Int) (j : Nat) : (j + 1) * bin n (j + 1) = bin n j * (n - j) := by
  have h1 := bin_mul n (j + 1)
  have h2 := bin_mul n j
  have h3 := facti_pos j
  rw [facti, ffall, ← h2] at h1
  have : facti j * ((j + 1) * bin n (j + 1)) = facti j * (bin n j * (n - j)) := by grind
  exact Int.eq_of_mul_eq_mul_left (by omega) this
theorem bin_pascal (n : Int) (j : Nat) : bin (n + 1) (j + 1) = bin n (j + 1) + bin n j := by
  have h1 := bin_mul (n + 1) (j + 1)
  have h2 := bin_mul n j
  have h3 := bin_mul n (j + 1)
  have h4 := facti_pos (j + 1)
  rw [ffall_diff, ← h3, ← h2, facti] at h1
  have h5 : facti (j + 1) * bin (n + 1) (j + 1) = facti (j + 1) * (bin n (j + 1) + bin n j) := by rw [facti]; grind
  exact Int.eq_of_mul_eq_mul_left (by omega) h5
theorem bin_zero (n : Int) : bin n 0 = 1 := by simp [bin, ffall, facti]
theorem bin_zero_succ (j : Nat) : bin 0 (j + 1) = 0 := by rw [bin, ffall_zero]; simp
/-- one turn of the loop -/
theorem bin_step (n : Int) (j : Nat) : (bin n j * (n - j)).fdiv (j + 1) = bin n (j + 1) := by
  rw [← bin_next, Int.fdiv_eq_ediv_of_nonneg _ (by omega), Int.mul_ediv_cancel_left _ (by omega)]
theorem bin_whole (n : Int) (j : Nat) : (ffall n j).fdiv (facti j) = bin n j := by
  have := facti_pos j
  rw [Int.fdiv_eq_ediv_of_nonneg _ (by omega)]; rfl
/-- below 0 -/
theorem ffall_neg (n : Int) : ∀ j : Nat, ffall n j = (-1) ^ j * ffall (j - n - 1) j
  | 0 => by simp [ffall]
  | j + 1 => by
    have h1 : ffall (((j + 1 : Nat) : Int) - n - 1) (j + 1) = (((j + 1 : Nat) : Int) - n - 1) * ffall (j - n - 1) j := by
      have := ffall_front (j - n - 1) j
      rw [show (j : Int) - n - 1 + 1 = ((j + 1 : Nat) : Int) - n - 1 by omega] at this
      exact this
    rw [h1, ffall, ffall_neg n j, Int.pow_succ, show ((j + 1 : Nat) : Int) - n - 1 = j - n by omega]
    grind
theorem bin_neg (n : Int) (j : Nat) : bin n j = (-1) ^ j * bin (j - n - 1) j := by
  have h1 := bin_mul n j
  have h2 := bin_mul (j - n - 1) j
  have h3 := facti_pos j
  rw [ffall_neg, ← h2] at h1
  refine Int.eq_of_mul_eq_mul_left (a := facti j) (by omega) ?_
  rw [h1]; grind
theorem sz_ffall {B : Nat} {n : Int} (hn : Sz B n) {k : Nat} (hk : Sz B (k : Int)) : ∀ j : Nat, j ≤ k → Sz ((B + 1) * j + 1) (ffall n j)
  | 0, _ => sz_one (by omega)
  | j + 1, h => by
    have hj : Sz B (j : Int) := by
      unfold Sz at *; omega
    have := (sz_ffall hn hk j (by omega)).mul (hn.sub hj (Nat.le_refl _) (Nat.le_refl _))
    rw [ffall]
    exact this.mono (by rw [Nat.mul_add]; omega)
theorem sz_bin {B : Nat} {n : Int} (hn : Sz B n) {k : Nat} (hk : Sz B (k : Int)) (j : Nat) (h : j ≤ k) : Sz ((B + 1) * j + 1) (bin n j) := (sz_ffall hn hk j h).ediv

/-! ### differences; the polynomial through numbers -/
/-- the j-th difference -/
def dif : Nat → (Int → Rat) → Int → Rat
  | 0, f => f
  | j + 1, f => dif j (fun x => f (x + 1) - f x)
theorem dif_next : ∀ (j : Nat) (f : Int → Rat) (x : Int), dif (j + 1) f x = dif j f (x + 1) - dif j f x
  | 0, f, x => rfl
  | j + 1, f, x => by
    rw [dif, dif_next j, dif]
/-- the sum of choices times numbers -/
def lin (n : Nat) (c : Nat → Rat) (x : Int) : Rat := sig n fun j => (bin x j : Rat) * c j
theorem bin_lin (n : Nat) (c : Nat → Rat) (x : Int) : lin (n + 1) c (x + 1) = lin (n + 1) c x + lin n (fun j => c (j + 1)) x := by
  unfold lin
  rw [sig_front, sig_front, ← sig_congr (f := fun i => ((bin x (i + 1) : Rat) * c (i + 1)) + ((bin x i : Rat) * c (i + 1))), sig_add, bin_zero, bin_zero]
  · grind
  · intro i _
    rw [bin_pascal, Rat.intCast_add]; grind
theorem lin_zero (n : Nat) (c : Nat → Rat) : lin (n + 1) c 0 = c 0 := by
  unfold lin
  rw [sig_front, sig_congr (g := fun _ => 0), sig_zero, bin_zero]
  · have : ((1 : Int) : Rat) = 1 := rfl
    rw [this]; grind
  · intro i _
    rw [bin_zero_succ]; simp
/-- a polynomial is the sum of choices of its differences -/
theorem newton_all : ∀ (n : Nat) (f : Int → Rat), (∀ x, dif n f x = 0) → ∀ x, lin n (fun j => dif j f 0) x = f x
  | 0, f, h, x => by
    rw [show lin 0 (fun j => dif j f 0) x = 0 from rfl]; exact (h x).symm
  | n + 1, f, h, x => by
    have ih := newton_all n (fun x => f (x + 1) - f x) h
    have st : ∀ x, lin (n + 1) (fun j => dif j f 0) (x + 1) = lin (n + 1) (fun j => dif j f 0) x + (f (x + 1) - f x) := fun x => by
      rw [bin_lin, ← ih x]; rfl
    refine int_all (P := fun x => lin (n + 1) (fun j => dif j f 0) x = f x) (lin_zero n _) (fun x h => ?_) (fun x h => ?_) x
    · rw [st, h]; grind
    · rw [st] at h; grind
/-- at the numbers themselves -/
theorem newton_at : ∀ (i n : Nat) (f : Int → Rat), i < n → lin n (fun j => dif j f 0) i = f i
  | 0, n + 1, f, _ => lin_zero n _
  | i + 1, n + 1, f, h => by
    rw [show ((i + 1 : Nat) : Int) = (i : Int) + 1 by omega, bin_lin, newton_at i (n + 1) f (by omega)]
    have := newton_at i n (fun x => f (x + 1) - f x) (by omega)
    rw [show lin n (fun j => dif (j + 1) f 0) (i : Int) = lin n (fun j => dif j (fun x => f (x + 1) - f x) 0) (i : Int) from rfl, this]
    grind
/-- the choices of a fraction -/
def nb (x : Rat) : Nat → Rat
  | 0 => 1
  | j + 1 => nb x j * (x - j) / (j + 1)
theorem nb_bin (n : Int) : ∀ j : Nat, nb (n : Rat) j = bin n j
  | 0 => by rw [nb, bin_zero]; rfl
  | j + 1 => by
    have h := bin_next n j
    have h2 : ((j + 1 : Rat)) * (bin n (j + 1) : Rat) = (bin n j : Rat) * ((n : Rat) - j) := by
      have := congrArg (fun z : Int => (z : Rat)) h
      simp only [Rat.intCast_mul, Rat.intCast_sub, Rat.intCast_add] at this
      exact_mod_cast this
    have h3 : ((j : Rat) + 1) ≠ 0 := by
      have : (0 : Rat) ≤ (j : Rat) := by exact_mod_cast Nat.zero_le j
      grind
    rw [nb, nb_bin n j]
    grind
theorem dif_const_mul (c : Rat) : ∀ (n : Nat) (f : Int → Rat) (x : Int), dif n (fun y => c * f y) x = c * dif n f x
  | 0, f, x => rfl
  | n + 1, f, x => by rw [dif_next, dif_const_mul c n, dif_const_mul c n, dif_next]; grind
theorem dif_add : ∀ (n : Nat) (f g : Int → Rat) (x : Int), dif n (fun y => f y + g y) x = dif n f x + dif n g x
  | 0, f, g, x => rfl
  | n + 1, f, g, x => by rw [dif_next, dif_add n, dif_add n, dif_next, dif_next]; grind
theorem dif_none : ∀ (n : Nat) (x : Int), dif n (fun _ => 0) x = 0
  | 0, x => rfl
  | n + 1, x => by rw [dif_next, dif_none n, dif_none n]; grind
theorem dif_more {n : Nat} {f : Int → Rat} (h : ∀ x, dif n f x = 0) : ∀ {m : Nat}, n ≤ m → ∀ x, dif m f x = 0
  | 0, hm, x => by
    have : n = 0 := by omega
    subst this; exact h x
  | m + 1, hm, x => by
    by_cases e : n = m + 1
    · subst e; exact h x
    · rw [dif_next, dif_more h (m := m) (by omega), dif_more h (m := m) (by omega)]; grind
/-- a factor more raises the degree by one -/
theorem dif_factor (a b : Rat) : ∀ (n : Nat) (f : Int → Rat), (∀ x, dif n f x = 0) → ∀ (b : Rat) (x : Int), dif (n + 1) (fun y => (a * (y : Rat) + b) * f y) x = 0
  | 0, f, h, b, x => by
    have h0 : ∀ x, f x = 0 := h
    show (a * ((x + 1 : Int) : Rat) + b) * f (x + 1) - (a * (x : Rat) + b) * f x = 0
    rw [h0, h0]; grind
  | n + 1, f, h, b, x => by
    have ih := dif_factor a a n (fun y => f (y + 1) - f y) h (b + a) x
    show dif (n + 1) (fun y => (a * ((y + 1 : Int) : Rat) + b) * f (y + 1) - (a * (y : Rat) + b) * f y) x = 0
    have e : (fun y : Int => (a * ((y + 1 : Int) : Rat) + b) * f (y + 1) - (a * (y : Rat) + b) * f y) = fun y : Int => (a * (y : Rat) + (b + a)) * (f (y + 1) - f y) + a * f y := by
      funext y
      rw [Rat.intCast_add]
      have : ((1 : Int) : Rat) = 1 := rfl
      rw [this]; grind
    rw [e, dif_add, ih, dif_const_mul, h]; grind
theorem nb_killed (m : Rat) : ∀ (j : Nat) (x : Int), dif (j + 1) (fun y => nb ((y : Rat) * m) j) x = 0
  | 0, x => by
    show (nb (((x + 1 : Int) : Rat) * m) 0) - nb ((x : Rat) * m) 0 = 0
    rw [nb, nb]; grind
  | j + 1, x => by
    have ih := nb_killed m j
    have := dif_factor (m / (j + 1)) 0 (j + 1) (fun y => nb ((y : Rat) * m) j) ih (-(j : Rat) / (j + 1)) x
    have e : (fun y : Int => nb ((y : Rat) * m) (j + 1)) = fun y : Int => (m / (j + 1) * (y : Rat) + -(j : Rat) / (j + 1)) * nb ((y : Rat) * m) j := by
      funext y
      rw [nb]
      have h3 : ((j : Rat) + 1) ≠ 0 := by
        have : (0 : Rat) ≤ (j : Rat) := by exact_mod_cast Nat.zero_le j
        grind
      grind
    rw [e]; exact this
/-- the polynomial with these differences, at a fraction -/
def npol (n : Nat) (c : Nat → Rat) (x : Rat) : Rat := sig n fun j => c j * nb x j
theorem npol_killed (c : Nat → Rat) (m : Rat) : ∀ (n : Nat) (x : Int), dif n (fun y => npol n c ((y : Rat) * m)) x = 0
  | 0, x => rfl
  | n + 1, x => by
    have e : (fun y : Int => npol (n + 1) c ((y : Rat) * m)) = fun y : Int => npol n c ((y : Rat) * m) + c n * nb ((y : Rat) * m) n := rfl
    rw [e, dif_add, dif_const_mul, nb_killed, dif_more (npol_killed c m n) (Nat.le_succ n)]; grind
end L2.P3

/-! ### numbers over one divisor -/
namespace L2.P3
open PySem PySem.Spec PyProof.Rows
def CD (D : Int) (N : Nat) (x : Rat) : Prop := ∃ a : Int, x * (D : Rat) = (a : Rat) ∧ Sz N a
section
variable {D E : Int} {N M : Nat} {x y : Rat}
theorem CD.mono (h : CD D N x) (l : N ≤ M) : CD D M x := let ⟨a, e, s⟩ := h; ⟨a, e, s.mono l⟩
theorem CD.add {c : Nat} (h : CD D N x) (h' : CD D M y) (l1 : N ≤ c) (l2 : M ≤ c) : CD D (c + 1) (x + y) := by
  obtain ⟨a, e, s⟩ := h
  obtain ⟨b, e', s'⟩ := h'
  exact ⟨a + b, by rw [Rat.intCast_add]; grind, s.add s' l1 l2⟩
theorem CD.sub {c : Nat} (h : CD D N x) (h' : CD D M y) (l1 : N ≤ c) (l2 : M ≤ c) : CD D (c + 1) (x - y) := by
  obtain ⟨a, e, s⟩ := h
  obtain ⟨b, e', s'⟩ := h'
  exact ⟨a - b, by rw [Rat.intCast_sub]; grind, s.sub s' l1 l2⟩
theorem CD.mul (h : CD D N x) (h' : CD E M y) : CD (D * E) (N + M) (x * y) := by
  obtain ⟨a, e, s⟩ := h
  obtain ⟨b, e', s'⟩ := h'
  exact ⟨a * b, by rw [Rat.intCast_mul, Rat.intCast_mul]; grind, s.mul s'⟩
theorem CD.up (h : CD D N x) (hE : Sz M E) : CD (D * E) (N + M) x := by
  obtain ⟨a, e, s⟩ := h
  exact ⟨a * E, by rw [Rat.intCast_mul, Rat.intCast_mul]; grind, s.mul hE⟩
theorem CD.int {i : Int} (h : Sz N i) : CD 1 N (i : Rat) := ⟨i, by have : ((1 : Int) : Rat) = 1 := rfl; rw [this]; grind, h⟩
theorem CD.zero (D : Int) (N : Nat) : CD D N 0 := ⟨0, by have : ((0 : Int) : Rat) = 0 := rfl; rw [this]; grind, by unfold Sz; exact Nat.pow_pos (by decide)⟩
theorem CD.rs {K : Nat} (h : CD D N x) (hD : 0 < D) (sD : Sz K D) (l : N ≤ K) : RS K x := by
  obtain ⟨a, e, s⟩ := h
  have hd : (D : Rat) ≠ 0 := by
    intro z
    have : D = 0 := by exact_mod_cast z
    omega
  have : x = Rat.divInt a D := by
    rw [Rat.divInt_eq_div, ← e]
    grind
  rw [this]
  exact rs_divInt (by omega) (s.mono l) sD
theorem CD.sig {f : Nat → Rat} : ∀ {k : Nat}, (∀ i, i < k → CD D N (f i)) → CD D (N + k) (sig k f)
  | 0, _ => CD.zero D _
  | k + 1, h => (CD.sig fun i hi => h i (by omega)).add (h k (by omega)) (Nat.le_refl _) (Nat.le_add_right _ _)
theorem CD.dif {f : Int → Rat} : ∀ {j k : Nat}, (∀ i : Nat, i < k + j → CD D N (f i)) → ∀ i : Nat, i < k → CD D (N + j) (dif j f i)
  | 0, k, h, i, hi => h i hi
  | j + 1, k, h, i, hi => by
    rw [dif_next]
    have h1 := CD.dif (j := j) (k := k + 1) (fun i hi => h i (by omega)) i (by omega)
    have h2 := CD.dif (j := j) (k := k + 1) (fun i hi => h i (by omega)) (i + 1) (by omega)
    exact h2.sub h1 (Nat.le_refl _) (Nat.le_refl _)
end
theorem sz_above {a b : Int} {x : Rat} {n m : Nat} (hb : 0 < b) (e : Rat.divInt a b = x) (hx : RS n x) (s : Sz m b) : Sz (n + m) a := by
  have h1 : a * (x.den : Int) = x.num * b := by
    have hd : (b : Rat) ≠ 0 := by
      intro z
      have : b = 0 := by exact_mod_cast z
      omega
    have h3 : (a : Rat) = x * b := by
      rw [← e, Rat.divInt_eq_div]; grind
    have hx0 : (x.den : Rat) ≠ 0 := by
      intro z
      have : x.den = 0 := by exact_mod_cast z
      exact x.den_nz this
    have h4 : x * (x.den : Rat) = (x.num : Rat) := by
      have := Rat.num_divInt_den x
      rw [Rat.divInt_eq_div] at this
      have h6 : (((x.den : Nat) : Int) : Rat) = (x.den : Rat) := rfl
      rw [h6] at this
      grind
    have h5 : (a : Rat) * (x.den : Rat) = (x.num : Rat) * (b : Rat) := by rw [h3, ← h4]; grind
    exact_mod_cast h5
  have h2 : Sz (n + m) (a * (x.den : Int)) := by rw [h1]; exact hx.1.mul s
  unfold Sz at *
  rw [Int.natAbs_mul] at h2
  have h3 : 1 ≤ (x.den : Int).natAbs := by have := x.den_pos; omega
  exact Nat.lt_of_le_of_lt (Nat.le_mul_of_pos_right _ h3) h2

/-! ### lists of fractions; comprehensions place by place -/
def frl (k : Nat) (f : Nat → Rat) : List PV := (List.range k).map fun i => fr (f i)
def nms (k : Nat) (f : Nat → Int) : List PV := (List.range k).map fun i => PV.int (f i)
theorem frs_len {k : Nat} {f : Nat → Rat} : (frl k f).length = k := by simp [frl]
theorem nms_len {k : Nat} {f : Nat → Int} : (nms k f).length = k := by simp [nms]
theorem frs_at {k i : Nat} {f : Nat → Rat} (h : i < k) : atI (frl k f) (i : Int) = some (fr (f i)) := atI_range h
theorem nms_at {k i : Nat} {f : Nat → Int} (h : i < k) : atI (nms k f) (i : Int) = some (.int (f i)) := atI_range h
theorem frs_next {k : Nat} {f : Nat → Rat} : frl (k + 1) f = frl k f ++ [fr (f k)] := by unfold frl; rw [List.range_succ, List.map_append]; rfl
theorem nms_next {k : Nat} {f : Nat → Int} : nms (k + 1) f = nms k f ++ [.int (f k)] := by unfold nms; rw [List.range_succ, List.map_append]; rfl
theorem frs_congr {k : Nat} {f g : Nat → Rat} (h : ∀ i, i < k → f i = g i) : frl k f = frl k g := by
  unfold frl
  exact List.map_congr_left fun i hi => by rw [h i (List.mem_range.mp hi)]
theorem frs_dats {n k : Nat} {f : Nat → Rat} : dats true (n + 1) (frl k f) = true := dats_mem.mpr fun x hx => by
  obtain ⟨i, _, rfl⟩ := List.mem_map.mp hx
  exact dat_fr
theorem frs_belows {n k : Nat} {f : Nat → Rat} : belows n (frl k f) = true := dats_belowN (frs_dats (n := 0))
theorem nms_dats {n k : Nat} {f : Nat → Int} : dats true n (nms k f) = true := dats_mem.mpr fun x hx => by
  obtain ⟨i, _, rfl⟩ := List.mem_map.mp hx
  cases n <;> rfl
theorem nms_belows {n k : Nat} {f : Nat → Int} : belows n (nms k f) = true := dats_belowN (nms_dats (n := 0))
theorem pLcL_pts {chk : Store → Prop} {g : PTG} {tt : PTT} {te : PTE} {E : XW} {ρ0 : PEnv} {Q : PQ} {S : Store} (hc : ∀ acc, chk (S ++ [acc])) :
    ∀ (xs ys acc : List PV), xs.length = ys.length → (∀ (i : Nat) x y, xs[i]? = some x → ys[i]? = some y → ∀ acc Qk, Qk (some y) (S ++ [acc]) → lcStep g tt te E ρ0 x (S ++ [acc]) Qk) → acc.length + xs.length ≤ 16777216 → Q (.lst S.length) (S ++ [acc ++ ys]) →
      pLcL chk g tt te E ρ0 S.length Q xs (S ++ [acc])
  | [], [], acc, _, _, _, q => ⟨hc acc, by simpa using q⟩
  | [], y :: ys, acc, h, _, _, _ => by cases h
  | x :: xs, [], acc, h, _, _, _ => by cases h
  | x :: xs, y :: ys, acc, hn, h, hl, q => by
    simp only [List.length_cons] at hl hn
    refine ⟨hc acc, h 0 x y rfl rfl acc (fun o S' => match o with
      | some y => onO S'[S.length]? fun a => a.length < 16777216 ∧ pLcL chk g tt te E ρ0 S.length Q xs (S'.set S.length (a ++ [y]))
      | none => pLcL chk g tt te E ρ0 S.length Q xs S') ?_⟩
    refine onO_of (x := acc) (by simp) ⟨by omega, ?_⟩
    have e2 : (S ++ [acc]).set S.length (acc ++ [y]) = S ++ [acc ++ [y]] := by simp
    rw [e2]
    exact pLcL_pts hc xs ys (acc ++ [y]) (by omega) (fun i a b ea eb => h (i + 1) a b (by simpa using ea) (by simpa using eb)) (by simp; omega) (by simpa using q)
/-- over numbered things -/
theorem pLcL_rng {chk : Store → Prop} {g : PTG} {tt : PTT} {te : PTE} {E : XW} {ρ0 : PEnv} {Q : PQ} {S : Store} {k : Nat} {a : Nat → PV} (b : Nat → PV) (hc : ∀ acc, chk (S ++ [acc])) (hk : k ≤ 1000000)
    (h : ∀ i, i < k → ∀ acc Qk, Qk (some (b i)) (S ++ [acc]) → lcStep g tt te E ρ0 (a i) (S ++ [acc]) Qk) (q : Q (.lst S.length) (S ++ [(List.range k).map b])) : pLcL chk g tt te E ρ0 S.length Q ((List.range k).map a) (S ++ [[]]) := by
  refine pLcL_pts hc _ ((List.range k).map b) [] (by simp) (fun i x y ea eb => ?_) (by simp; omega) (by simpa using q)
  have hi : i < k := by
    have := (List.getElem?_eq_some_iff.mp ea).1
    simpa using this
  rw [List.getElem?_map, List.getElem?_range hi] at ea eb
  cases ea
  cases eb
  exact h i hi
end L2.P3
/-! tuple * 1; draws into lists -/
namespace L2.P3
open PySem PySem.Spec PyProof.Rows L2
theorem once_meets (l : Addr) (us : Array Value) (n : Nat) (dd : Option Addr) (sl : Array (Option Value)) (u : Tok) :
    Meets (Builtin.«tuple.__mul__» ⟨[.ref l, .int 1 u], []⟩) (fun _ R s => s.heap.get? l = some { cls := .type "tuple", dict := dd, data := .seq us n, slots := sl } ∧ R (.ok (.ret (.ref l))) s) :=
  .of_wp fun prog w A R s q => by
    obtain ⟨hp, gl, dt, tk, oss⟩ := s
    obtain ⟨e, q⟩ := q
    have ix := AutoSeq1.idx_int
    wp_walk using wpAny_loadPart' e
    exact ⟨_, rfl, q⟩
def rOnce (K : PySem.W.Frag) : R2 := fun x y H Q => ∃ l xs, x = .ref l ∧ y = .int 1 ∧ SqT K H l xs ∧ Q (.ref l) H
theorem op_once {X : Cx} : OpR X (binaryOp .Mult) (rOnce X.K) := by
  intro pins s σ H x y v u Q I rx ry h
  obtain ⟨l, xs, rfl, rfl, hT, q⟩ := h
  cases rx
  obtain ⟨t, rfl⟩ := ry
  obtain ⟨us, r, ⟨⟨cls, dd, data, sl⟩, e, hc, n, hd⟩, hs⟩ := I.tuple hT
  simp only at hc hd
  subst hc hd
  exact wpAny_binaryOp_repeat_ref (T := "tuple") (U := "int") (by decide) ⟨_, e, rfl⟩ (fun s' => typeIs_int s' 1 t) noFill_tuple_mul F.fills_int_mul F.slot_int_rmul repeat_tuple F.slot_int_index.lookup
    (call_meets F.slot_int_rmul (typeIs_int s 1 t) F.entry_int_rmul (F.args_int_rmul_2 _ _) (int_rmul_tuple 1 t l us.toArray n dd sl)
      ⟨e, rfl, ⟨_, e, rfl⟩, call_meets F.slot_tuple_mul ⟨_, e, rfl⟩ F.entry_tuple_mul (F.args_tuple_mul_2 _ _) (once_meets l us.toArray n dd sl t) ⟨e, ⟨.ref l, H, I, rfl, q⟩⟩⟩)
def oMulT : PO2 := fun x y S Q => match x, y with
  | .int i, .int j => MulOk i j ∧ Q (.int (i * j)) S
  | .tup xs, .int k => (xs ≠ [] ∧ 1 ≤ k ∧ k ≤ 1000 ∧ xs.length ≤ 1000) ∧ Q (.tup (List.replicate k.toNat xs).flatten) S
  | _, _ => False
instance : Mo2 oMulT := ⟨fun h q => by
  unfold oMulT at q ⊢
  split at q <;> first | exact ⟨q.1, h _ _ q.2⟩ | exact q.elim⟩
def rMulT (K : PySem.W.Frag) : R2 := fun x y H Q => rI MulOk (fun i j => .int (i * j)) x y H Q ∨ rRepT K x y H Q ∨ rOnce K x y H Q
theorem op_mulT {X : Cx} : OpR X (binaryOp .Mult) (rMulT X.K) := op_mulX.or (op_repT.or op_once)
theorem oMulTP {bk : BagKind} {K : PySem.W.Frag} : OpP bk K (rMulT K) oMulT := fun M S H x y v w Q Q' s r1 r2 q p => by
  unfold oMulT at q
  split at q
  · rw [rp_int r1, rp_int r2]; exact .inl ⟨_, _, rfl, rfl, q.1, p M S H _ _ (.refl M H) s to_int q.2⟩
  · rename_i xs k
    obtain ⟨⟨h1, h2, h3, h4⟩, q⟩ := q
    obtain ⟨a, vs, rfl, ht, s1⟩ := rp_tup r1
    rw [rp_int r2]
    by_cases e : k = 1
    · subst e
      have e2 : (List.replicate (1 : Int).toNat xs).flatten = xs := by
        rw [show (1 : Int).toNat = 1 from rfl, List.replicate_one, List.flatten_cons, List.flatten_nil, List.append_nil]
      rw [e2] at q
      exact .inr (.inr ⟨a, vs, rfl, rfl, ht, p M S H _ _ (.refl M H) s r1 q⟩)
    · exact .inr (.inl ⟨a, _, vs, rfl, rfl, ht, fun e => h1 ((rps_nil_iff s1).mp e), by omega, h3, by rw [s1.length]; exact h4, p.tup s (rps_rep s1 _) q⟩)
  · exact q.elim

/-! ### a comprehension whose items are not known, but held in bounds -/
theorem pLcL_any {chk : Store → Prop} {g : PTG} {tt : PTT} {te : PTE} {E : XW} {ρ0 : PEnv} {Q : PQ} {S : Store} (P : Nat → PV → Prop) (hc : ∀ acc, chk (S ++ [acc])) :
    ∀ (xs acc : List PV) (n : Nat), (∀ (i : Nat) x, xs[i]? = some x → ∀ acc Qk, (∀ y, P (n + i) y → Qk (some y) (S ++ [acc])) → lcStep g tt te E ρ0 x (S ++ [acc]) Qk) → acc.length + xs.length ≤ 16777216 →
      (∀ ys, ys.length = xs.length → (∀ i y, ys[i]? = some y → P (n + i) y) → Q (.lst S.length) (S ++ [acc ++ ys])) → pLcL chk g tt te E ρ0 S.length Q xs (S ++ [acc])
  | [], acc, n, _, _, q => ⟨hc acc, by simpa using q [] rfl (fun i y e => by simp at e)⟩
  | x :: xs, acc, n, h, hl, q => by
    simp only [List.length_cons] at hl
    refine ⟨hc acc, h 0 x rfl acc (fun o S' => match o with
      | some y => onO S'[S.length]? fun a => a.length < 16777216 ∧ pLcL chk g tt te E ρ0 S.length Q xs (S'.set S.length (a ++ [y]))
      | none => pLcL chk g tt te E ρ0 S.length Q xs S') fun y hy => ?_⟩
    refine onO_of (x := acc) (by simp) ⟨by omega, ?_⟩
    have e2 : (S ++ [acc]).set S.length (acc ++ [y]) = S ++ [acc ++ [y]] := by simp
    rw [e2]
    refine pLcL_any P hc xs (acc ++ [y]) (n + 1) (fun i a ea acc Qk hq => h (i + 1) a (by simpa using ea) acc Qk fun z hz => hq z (by rw [Nat.add_assoc, Nat.add_comm 1]; exact hz)) (by simp; omega) fun ys hy2 hys => ?_
    have := q (y :: ys) (by simp [hy2]) fun i z e => by
      cases i with
      | zero => simp at e; subst e; exact hy
      | succ i => have := hys i z (by simpa using e); rw [Nat.add_assoc, Nat.add_comm 1] at this; exact this
    simpa using this
theorem get_fun {α : Type} [Inhabited α] {P : Nat → α → Prop} {c : α → PV} {ys : List PV} (h : ∀ (i : Nat) y, ys[i]? = some y → ∃ z, y = c z ∧ P i z) : ∃ p : Nat → α, ys = (List.range ys.length).map (fun i => c (p i)) ∧ ∀ i, i < ys.length → P i (p i) := by
  have h2 : ∀ i, ∃ z, i < ys.length → ys[i]? = some (c z) ∧ P i z := fun i => by
    by_cases hi : i < ys.length
    · obtain ⟨z, e, hz⟩ := h i ys[i] (by simp [hi])
      exact ⟨z, fun _ => ⟨by rw [← e]; simp [hi], hz⟩⟩
    · exact ⟨default, fun z => absurd z hi⟩
  refine ⟨fun i => Classical.choose (h2 i), ?_, fun i hi => (Classical.choose_spec (h2 i) hi).2⟩
  apply List.ext_getElem?
  intro i
  by_cases hi : i < ys.length
  · rw [(Classical.choose_spec (h2 i) hi).1]; simp [hi]
  · rw [List.getElem?_eq_none (by omega), List.getElem?_eq_none (by simp; omega)]
/-- a list of whole numbers in bounds, drawn one by one -/
theorem pLcL_ints {chk : Store → Prop} {g : PTG} {tt : PTT} {te : PTE} {E : XW} {ρ0 : PEnv} {Q : PQ} {S : Store} (lo hi : Int) (hc : ∀ acc, chk (S ++ [acc])) (xs : List PV)
    (h : ∀ (i : Nat) x, xs[i]? = some x → ∀ acc Qk, (∀ z : Int, lo ≤ z → z ≤ hi → Qk (some (.int z)) (S ++ [acc])) → lcStep g tt te E ρ0 x (S ++ [acc]) Qk) (hl : xs.length ≤ 1000000)
    (q : ∀ p : Nat → Int, (∀ i, i < xs.length → lo ≤ p i ∧ p i ≤ hi) → Q (.lst S.length) (S ++ [nms xs.length p])) : pLcL chk g tt te E ρ0 S.length Q xs (S ++ [[]]) := by
  refine pLcL_any (fun _ y => ∃ z : Int, y = .int z ∧ lo ≤ z ∧ z ≤ hi) hc xs [] 0 (fun i x e acc Qk hq => h i x e acc Qk fun z h1 h2 => hq _ ⟨z, rfl, h1, h2⟩) (by simp; omega) fun ys hy hys => ?_
  obtain ⟨p, e, hp⟩ := get_fun (P := fun _ z => lo ≤ z ∧ z ≤ hi) (c := PV.int) hys
  rw [hy] at e hp
  rw [List.nil_append, e]
  exact q p hp
theorem rs_sig {a : Nat} {f : Nat → Rat} : ∀ {k : Nat}, (∀ i, i < k → RS a (f i)) → RS ((a + 1) * k + 1) (sig k f)
  | 0, _ => ⟨by rw [show (sig 0 f).num = 0 from rfl]; exact sz_pos _, sz_one (by omega)⟩
  | k + 1, h => ((rs_sig (k := k) fun i hi => h i (by omega)).add (h k (by omega))).mono (by rw [Nat.mul_add]; omega)

/-! ### differences of a row -/
def dfn : Nat → (Nat → Rat) → Nat → Rat
  | 0, f, i => f i
  | j + 1, f, i => dfn j f (i + 1) - dfn j f i
def dfz : Nat → (Nat → Int) → Nat → Int
  | 0, f, i => f i
  | j + 1, f, i => dfz j f (i + 1) - dfz j f i
theorem dfz_cast (p : Nat → Int) : ∀ (j i : Nat), ((dfz j p i : Int) : Rat) = dfn j (fun i => (p i : Rat)) i
  | 0, i => rfl
  | j + 1, i => by rw [dfz, dfn, Rat.intCast_sub, dfz_cast p j, dfz_cast p j]
theorem dfn_dif (F : Int → Rat) : ∀ (j i : Nat), dfn j (fun i => F i) i = dif j F i
  | 0, i => rfl
  | j + 1, i => by rw [dif_next, dfn, dfn_dif F j, dfn_dif F j]; rfl
theorem dfn_congr {f g : Nat → Rat} : ∀ {j i k : Nat}, (∀ i, i < k → f i = g i) → i + j < k → dfn j f i = dfn j g i
  | 0, i, k, h, l => h i l
  | j + 1, i, k, h, l => by rw [dfn, dfn, dfn_congr h (by omega), dfn_congr h (by omega)]
theorem sz_dfz {N k : Nat} {p : Nat → Int} (h : ∀ i, i < k → Sz N (p i)) : ∀ (j i : Nat), i + j < k → Sz (N + j) (dfz j p i)
  | 0, i, l => h i l
  | j + 1, i, l => (sz_dfz h j (i + 1) (by omega)).sub (sz_dfz h j i (by omega)) (Nat.le_refl _) (Nat.le_refl _)
theorem cd_dfn {D : Int} {N k : Nat} {f : Nat → Rat} (h : ∀ i, i < k → CD D N (f i)) : ∀ (j i : Nat), i + j < k → CD D (N + j) (dfn j f i)
  | 0, i, l => h i l
  | j + 1, i, l => (cd_dfn h j (i + 1) (by omega)).sub (cd_dfn h j i (by omega)) (Nat.le_refl _) (Nat.le_refl _)
/-- the polynomial through numbers, at a fraction -/
def pthrough (k : Nat) (p : Nat → Int) (x : Rat) : Rat := npol k (fun j => dfn j (fun i => (p i : Rat)) 0) x
/-- its differences at steps of 1 / m -/
def finer (k : Nat) (p : Nat → Int) (m : Int) (j : Nat) : Rat := dfn j (fun i => pthrough k p (Rat.divInt i m)) 0
theorem step_m (i m : Int) : Rat.divInt i m = (i : Rat) * (1 / (m : Rat)) := by rw [Rat.divInt_eq_div]; grind
/-- the finer line is the polynomial -/
theorem finer_line (k : Nat) (p : Nat → Int) (m i : Int) : sig k (fun j => finer k p m j * (bin i j : Rat)) = pthrough k p (Rat.divInt i m) := by
  have h := newton_all k (fun y => npol k (fun j => dfn j (fun i => (p i : Rat)) 0) ((y : Rat) * (1 / (m : Rat)))) (npol_killed _ _ k) i
  rw [step_m]
  unfold pthrough
  rw [← h]
  unfold lin
  refine sig_congr fun j hj => ?_
  unfold finer pthrough
  rw [show (fun i : Nat => npol k (fun j => dfn j (fun i => (p i : Rat)) 0) (Rat.divInt i m)) = fun i : Nat => (fun y : Int => npol k (fun j => dfn j (fun i => (p i : Rat)) 0) ((y : Rat) * (1 / (m : Rat)))) i by
    funext i; rw [step_m]]
  have e3 := dfn_dif (fun y : Int => npol k (fun j => dfn j (fun i => (p i : Rat)) 0) ((y : Rat) * (1 / (m : Rat)))) j 0
  rw [show ((0 : Nat) : Int) = 0 from rfl] at e3
  dsimp only
  rw [e3]
  grind
/-- through the numbers -/
theorem pthrough_at {k i : Nat} (p : Nat → Int) (h : i < k) : pthrough k p (i : Rat) = p i := by
  have h2 := newton_at i k (fun y => (p y.toNat : Rat)) h
  simp only [Int.toNat_natCast] at h2
  rw [← h2]
  unfold pthrough npol lin
  refine sig_congr fun j hj => ?_
  have e := nb_bin (i : Int) j
  rw [show ((i : Int) : Rat) = (i : Rat) from rfl] at e
  rw [e]
  have e2 := dfn_dif (fun y : Int => (p y.toNat : Rat)) j 0
  simp only [Int.toNat_natCast] at e2
  rw [show ((0 : Nat) : Int) = 0 from rfl] at e2
  dsimp only
  rw [e2]
  grind
theorem nb_next (x : Rat) (j : Nat) : nb x (j + 1) = nb x j * ((x + -(j : Rat)) * Rat.divInt 1 ((j : Int) + 1)) := by
  have e : Rat.divInt 1 ((j : Int) + 1) = 1 / ((j : Rat) + 1) := by
    rw [Rat.divInt_eq_div, Rat.intCast_add]; rfl
  rw [nb, e]; grind
/-- a divisor of the choices of i / m -/
def mfall (i m : Int) : Nat → Int
  | 0 => 1
  | j + 1 => mfall i m j * (i - j * m)
theorem cd_nb {i m : Int} {N : Nat} (hm : 0 < m) (sm : Sz N m) : ∀ (K j : Nat), j ≤ K → (∀ j : Nat, j < K → Sz N (i - j * m)) → Sz N (K : Int) → CD (m ^ K * facti K) (2 * N * K + 1) (nb (Rat.divInt i m) j)
  | 0, j, h, _, _ => by
    have : j = 0 := by omega
    subst this
    exact ⟨1, by simp [nb, facti], sz_one (by omega)⟩
  | K + 1, j, h, hi, hK => by
    have hE : Sz (2 * N) (m * (K + 1)) := by
      have := sm.mul hK
      exact this.mono (by omega)
    have hD : m ^ (K + 1) * facti (K + 1) = (m ^ K * facti K) * (m * (K + 1)) := by rw [facti, Int.pow_succ]; grind
    have hK' : Sz N (K : Int) := by unfold Sz at *; omega
    rw [hD]
    by_cases e : j ≤ K
    · exact ((cd_nb hm sm K j e (fun j hj => hi j (by omega)) hK').up hE).mono (by rw [Nat.mul_add]; omega)
    · have : j = K + 1 := by omega
      subst this
      obtain ⟨a, ea, sa⟩ := cd_nb hm sm K K (Nat.le_refl _) (fun j hj => hi j (by omega)) hK'
      refine ⟨a * (i - K * m), ?_, (sa.mul (hi K (by omega))).mono (by rw [Nat.mul_add]; omega)⟩
      have hm0 : (m : Rat) ≠ 0 := by
        intro z
        have : m = 0 := by exact_mod_cast z
        omega
      have h3 : ((K : Rat) + 1) ≠ 0 := by
        have : (0 : Rat) ≤ (K : Rat) := by exact_mod_cast Nat.zero_le K
        grind
      have e1 : (((i - K * m : Int)) : Rat) = (i : Rat) - (K : Rat) * m := by rw [Rat.intCast_sub, Rat.intCast_mul]; rfl
      have e2 : (((m * (K + 1) : Int)) : Rat) = (m : Rat) * ((K : Rat) + 1) := by rw [Rat.intCast_mul, Rat.intCast_add]; rfl
      rw [nb, Rat.intCast_mul (m ^ K * facti K), Rat.intCast_mul a, e1, e2, ← ea, Rat.divInt_eq_div]
      have e4 : (i : Rat) / m * m = i := by grind
      grind
end L2.P3
/-! == and != of data -/
namespace L2.P3
open PySem PySem.Spec PyProof.Rows L2
def allO (f : PV → Option PyData) : List PV → Option (List PyData)
  | [] => some []
  | x :: xs => match f x, allO f xs with
    | some d, some ds => some (d :: ds)
    | _, _ => none
def pscal : PV → Option PyData
  | .non => some .none
  | .bl b => some (.bool b)
  | .int i => some (.int i)
  | .str x => if PyData.canLay0 (.str x) then some (.str x) else none
  | _ => none
/-- a value as data, of nesting up to n -/
def pdat (S : Store) : Nat → PV → Option PyData
  | 0, x => pscal x
  | n + 1, x => match x with
    | .tup xs => (allO (pdat S n) xs).map .tuple
    | .rol xs => (allO (pdat S n) xs).map .list
    | .lst k => S[k]?.bind fun xs => (allO (pdat S n) xs).map .list
    | x => pscal x
section
variable {bk : BagKind} {K : PySem.W.Frag} {M : Am} {S : Store} {H : Hp}
theorem pscal_dp {x : PV} {v : V} {d : PyData} {r : Nat} (h : Rp K r M H x v) (e : pscal x = some d) : Dp K H v d ∧ d.canLay0 = true ∧ d.depth = 0 := by
  cases x <;> simp only [pscal] at e <;> try (cases e)
  · rw [rp_non h]; exact ⟨.non, rfl, rfl⟩
  · rw [rp_bl h]; exact ⟨.bl _, rfl, rfl⟩
  · rw [rp_int h]; exact ⟨.int _, rfl, rfl⟩
  · split at e
    · rename_i z
      cases e
      rw [rp_str h]; exact ⟨.str _, z, rfl⟩
    · cases e
theorem allO_dp {f : PV → Option PyData} {n r : Nat} (hf : ∀ x v d, Rp K r M H x v → f x = some d → Dp K H v d ∧ d.canLay0 = true ∧ d.depth ≤ n) : ∀ (xs : List PV) (vs : List V) (ds : List PyData), Rps K r M H xs vs → allO f xs = some ds →
    DpAll K H vs ds ∧ PyData.canLayAll0 ds = true ∧ PyData.depthAll ds ≤ n
  | [], vs, ds, h, e => by
    rw [Rps] at h
    subst h
    cases e
    exact ⟨.nil, rfl, Nat.zero_le _⟩
  | x :: xs, vs, ds, h, e => by
    rw [Rps] at h
    obtain ⟨v, ws, rfl, h1, h2⟩ := h
    rw [allO] at e
    split at e
    · rename_i d ds' e1 e2
      cases e
      obtain ⟨a1, a2, a3⟩ := hf x v d h1 e1
      obtain ⟨b1, b2, b3⟩ := allO_dp hf xs ws ds' h2 e2
      refine ⟨.cons a1 b1, ?_, ?_⟩
      · simp only [PyData.canLayAll0, a2, b2, Bool.and_self]
      · simp only [PyData.depthAll]; omega
    · cases e
theorem pdat_dp (s : Sto K bk M S H) : ∀ (n : Nat) (x : PV) (v : V) (d : PyData), Rp K bk.root M H x v → pdat S n x = some d → Dp K H v d ∧ d.canLay0 = true ∧ d.depth ≤ n
  | 0, x, v, d, h, e => by
    obtain ⟨a, b, c⟩ := pscal_dp h e
    exact ⟨a, b, by omega⟩
  | n + 1, x, v, d, h, e => by
    rw [pdat.eq_def] at e
    simp only at e
    split at e
    · obtain ⟨ds, e1, rfl⟩ := Option.map_eq_some_iff.mp e
      obtain ⟨a, vs, rfl, fz, rs⟩ := rp_tup h
      obtain ⟨b1, b2, b3⟩ := allO_dp (pdat_dp s n) _ vs ds rs e1
      exact ⟨.tup fz b1, b2, by simp only [PyData.depth]; omega⟩
    · obtain ⟨ds, e1, rfl⟩ := Option.map_eq_some_iff.mp e
      obtain ⟨a, vs, rfl, fz, rs⟩ := rp_rol h
      obtain ⟨b1, b2, b3⟩ := allO_dp (pdat_dp s n) _ vs ds rs e1
      exact ⟨.lst fz.sq b1, b2, by simp only [PyData.depth]; omega⟩
    · obtain ⟨xs, e0, e⟩ := Option.bind_eq_some_iff.mp e
      obtain ⟨ds, e1, rfl⟩ := Option.map_eq_some_iff.mp e
      obtain ⟨a, ea, rfl⟩ := rp_lst h
      obtain ⟨vs, eh, rs⟩ := s.lst ea e0
      obtain ⟨b1, b2, b3⟩ := allO_dp (pdat_dp s n) _ vs ds rs e1
      exact ⟨.lst (SqL.of eh) b1, b2, by simp only [PyData.depth]; omega⟩
    · obtain ⟨a, b, c⟩ := pscal_dp h e
      exact ⟨a, b, by omega⟩
def oEqD : PO2 := fun x y S Q => onO (pdat S 6 x) fun d => onO (pdat S 6 y) fun e => Q (.bl (PyData.eqv d e)) S
def oNeD : PO2 := fun x y S Q => onO (pdat S 6 x) fun d => onO (pdat S 6 y) fun e => Q (.bl (!PyData.eqv d e)) S
instance : Mo2 oEqD := ⟨fun h q => onO_mo (fun _ q => onO_mo (fun _ q => h _ _ q) q) q⟩
instance : Mo2 oNeD := ⟨fun h q => onO_mo (fun _ q => onO_mo (fun _ q => h _ _ q) q) q⟩
theorem shaped_of {d : PyData} (h1 : d.canLay0 = true) (h2 : d.depth ≤ 6) : SeqAt.shaped d = true := by
  unfold SeqAt.shaped
  rw [h1, Bool.true_and]
  exact decide_eq_true (by omega)
theorem oEqDP : OpP bk K (rEqD K) oEqD := fun M S H x y v w Q Q' s r1 r2 q p => by
  obtain ⟨d, e1, q⟩ := onO_ex q
  obtain ⟨e, e2, q⟩ := onO_ex q
  obtain ⟨a1, a2, a3⟩ := pdat_dp s 6 x v d r1 e1
  obtain ⟨b1, b2, b3⟩ := pdat_dp s 6 y w e r2 e2
  exact ⟨d, e, a1, b1, shaped_of a2 a3, shaped_of b2 b3, p M S H _ _ (.refl M H) s to_bl q⟩
theorem oNeDP : OpP bk K (rNeD K) oNeD := fun M S H x y v w Q Q' s r1 r2 q p => by
  obtain ⟨d, e1, q⟩ := onO_ex q
  obtain ⟨e, e2, q⟩ := onO_ex q
  obtain ⟨a1, a2, a3⟩ := pdat_dp s 6 x v d r1 e1
  obtain ⟨b1, b2, b3⟩ := pdat_dp s 6 y w e r2 e2
  exact ⟨d, e, a1, b1, shaped_of a2 a3, shaped_of b2 b3, p M S H _ _ (.refl M H) s to_bl q⟩
end
/-! ### data of fractions -/
def frD (x : Rat) : PyData := .tuple [.int x.num, .int (x.den : Int)]
theorem pdat_fr {S : Store} {n : Nat} {x : Rat} : pdat S (n + 1) (fr x) = some (frD x) := by cases n <;> rfl
theorem eqv_fr (x y : Rat) : PyData.eqv (frD x) (frD y) = decide (x = y) := by
  simp only [frD, PyData.eqv, PyData.eqvAll, Bool.and_true]
  by_cases h : x = y
  · subst h; simp
  · rw [decide_eq_false h]
    by_cases h1 : x.num = y.num
    · have : ¬ x.den = y.den := fun e => h (Rat.ext h1 e)
      have : ((x.den : Int) == (y.den : Int)) = false := beq_eq_false_iff_ne.mpr (by omega)
      rw [this, Bool.and_false]
    · have : (x.num == y.num) = false := by simpa using h1
      rw [this, Bool.false_and]
theorem allO_map {α : Type} {f : PV → Option PyData} {c : α → PV} {d : α → PyData} (h : ∀ i, f (c i) = some (d i)) : ∀ xs : List α, allO f (xs.map c) = some (xs.map d)
  | [] => rfl
  | x :: xs => by rw [List.map_cons, allO, h, allO_map h xs]; rfl
theorem allO_frs {S : Store} {n k : Nat} {f : Nat → Rat} : allO (pdat S (n + 1)) (frl k f) = some ((List.range k).map fun i => frD (f i)) := allO_map (fun i => pdat_fr) _
theorem eqv_nil (ds : List PyData) : PyData.eqv (.list ds) (.list []) = ds.isEmpty := by
  cases ds <;> rfl
end L2.P3
namespace L2.P3
theorem pdat_lst {S : Store} {n m : Nat} {xs : List PV} {ds : List PySem.PyData} (h : S[m]? = some xs) (e : allO (pdat S n) xs = some ds) : pdat S (n + 1) (.lst m) = some (.list ds) := by
  rw [pdat.eq_def]
  simp only
  rw [h]
  show Option.map _ _ = _
  rw [e]; rfl
theorem pdat_tup {S : Store} {n : Nat} {xs : List PV} {ds : List PySem.PyData} (e : allO (pdat S n) xs = some ds) : pdat S (n + 1) (.tup xs) = some (.tuple ds) := by
  rw [pdat.eq_def]
  show Option.map _ _ = _
  rw [e]; rfl
end L2.P3
namespace L2.P3
open PySem PySem.Spec PyProof.Rows L2
theorem nat_int_rat (j : Nat) : ((j : Int) : Rat) = (j : Rat) := rfl
theorem rs_nb {x : Rat} (hx : RS 16 x) : ∀ {j : Nat}, j ≤ 100 → RS (33 * j + 1) (nb x j)
  | 0, _ => rs_int (i := 1) (sz_one (by omega)) (by omega)
  | j + 1, h => by
    rw [nb_next]
    have h1 : RS 8 (-(j : Rat)) := rs_neg (rs_int (i := (j : Int)) (sz_le (b := 200) (by omega) (by omega) (by decide)) (by decide))
    have h2 : RS 8 (Rat.divInt 1 ((j : Int) + 1)) := rs_divInt (by omega) (sz_one (by decide)) (sz_le (b := 200) (by omega) (by omega) (by decide))
    exact ((rs_nb hx (by omega)).mul ((hx.add h1).mul h2)).mono (by omega)
theorem rs_dfn {N k : Nat} {p : Nat → Int} (h : ∀ i, i < k → Sz N (p i)) (hN : 1 ≤ N) (j i : Nat) (l : i + j < k) : RS (N + k) (dfn j (fun i => (p i : Rat)) i) := by
  rw [← dfz_cast]
  exact rs_int ((sz_dfz h j i l).mono (by omega)) (by omega)
theorem nb_law (x : Rat) (j : Nat) : nb x j * (x - (j : Rat)) * Rat.divInt 1 ((j : Int) + 1) = nb x (j + 1) := by rw [nb_next]; grind
/-- sizes for the polynomial's parts -/
theorem rs_part {k : Nat} {p : Nat → Int} {x : Rat} (hp : ∀ i, i < k → Sz 101 (p i)) (hk : k ≤ 7) (hx : RS 16 x) (j : Nat) (hj : j < k) : RS 360 (dfn j (fun i => (p i : Rat)) 0 * nb x j) :=
  ((rs_dfn hp (by decide) j 0 (by omega)).mul (rs_nb hx (by omega))).mono (by omega)
theorem rs_parts {k : Nat} {p : Nat → Int} {x : Rat} (hp : ∀ i, i < k → Sz 101 (p i)) (hk : k ≤ 7) (hx : RS 16 x) (j : Nat) (hj : j ≤ k) : RS 2600 (npol j (fun j => dfn j (fun i => (p i : Rat)) 0) x) :=
  (rs_sig (a := 360) fun i hi => rs_part hp hk hx i (by omega)).mono (by omega)
end L2.P3
namespace L2.P3
open PySem PySem.Spec PyProof.Rows L2
theorem cd_through {k : Nat} {p : Nat → Int} {i m : Int} (hk : k ≤ 7) (hp : ∀ i, i < k → Sz 101 (p i)) (hm : 2 ≤ m) (hm2 : m ≤ 10) (h1 : -30 ≤ i) (h2 : i ≤ 70) : CD (m ^ 7 * facti 7) 240 (pthrough k p (Rat.divInt i m)) := by
  unfold pthrough npol
  have hs : ∀ j : Nat, j < 7 → Sz 8 (i - j * m) := fun j hj => by
    have a1 : (j : Int) * m ≤ 6 * 10 := Int.mul_le_mul (by omega) hm2 (by omega) (by omega)
    have a2 : 0 ≤ (j : Int) * m := Int.mul_nonneg (by omega) (by omega)
    exact sz_le (b := 200) (by omega) (by omega) (by decide)
  have hc : ∀ j, j < k → CD (m ^ 7 * facti 7) 221 (dfn j (fun i => (p i : Rat)) 0 * nb (Rat.divInt i m) j) := fun j hj => by
    have a1 : CD 1 108 (dfn j (fun i => (p i : Rat)) 0) := by
      rw [← dfz_cast]
      exact CD.int ((sz_dfz hp j 0 (by omega)).mono (by omega))
    have a2 := cd_nb (i := i) (N := 8) (by omega) (sz_le (b := 10) (by omega) hm2 (by decide)) 7 j (by omega) hs (by unfold Sz; decide)
    have a3 := a1.mul a2
    rw [Int.one_mul] at a3
    exact a3.mono (by omega)
  exact (CD.sig hc).mono (by omega)
theorem fine_den {m : Int} (hm : 2 ≤ m) (hm2 : m ≤ 10) : 0 < m ^ 7 * facti 7 ∧ Sz 250 (m ^ 7 * facti 7) := by
  have h : m = 2 ∨ m = 3 ∨ m = 4 ∨ m = 5 ∨ m = 6 ∨ m = 7 ∨ m = 8 ∨ m = 9 ∨ m = 10 := by omega
  rcases h with h | h | h | h | h | h | h | h | h <;> subst h <;> (unfold Sz; decide +kernel)
theorem rs_finer {k : Nat} {p : Nat → Int} {m : Int} (hk : k ≤ 7) (hp : ∀ i, i < k → Sz 101 (p i)) (hm : 2 ≤ m) (hm2 : m ≤ 10) (j i : Nat) (l : i + j < k) : RS 250 (dfn j (fun i => pthrough k p (Rat.divInt i m)) i) :=
  (cd_dfn (k := k) (fun i hi => cd_through hk hp hm hm2 (by omega) (by omega)) j i l).rs (fine_den hm hm2).1 (fine_den hm hm2).2 (by omega)
end L2.P3
/-! comprehensions within comprehensions -/
namespace L2.P3
open PySem PySem.Spec PyProof.Rows L2
theorem blkOk_in {N : List Str} {env : Env} {sc0 scope0 scope : Scope} {own : List (Str × Nat)} {cl : List (Str × Addr)} {C : Addr} (h : blkC N (relS scope0 sc0) scope own = true) (he : env.scope = sc0) : BlkOk N (compEnvC scope0 cl C env).scope scope own := by
  subst he
  exact blkOk_by h
end L2.P3

/-! ### comprehensions whose turns leave lists behind -/
namespace L2.P3
open PySem PySem.Spec PyProof.Rows L2
theorem get_app {S G : Store} {n : Nat} {x : List PV} (h : S[n]? = some x) : (S ++ G)[n]? = some x := by
  rw [List.getElem?_append_left (List.getElem?_eq_some_iff.mp h).1]; exact h
/-- S, the list acc behind it, and more -/
def Tl (S : Store) (acc : List PV) (S' : Store) : Prop := ∃ G, S' = S ++ acc :: G
theorem Tl.base {S : Store} {acc : List PV} {G : Store} : Tl S acc (S ++ acc :: G) := ⟨G, rfl⟩
theorem Tl.app {S S' L : Store} {acc : List PV} (h : Tl S acc S') : Tl S acc (S' ++ L) := by
  obtain ⟨G, rfl⟩ := h
  exact ⟨G ++ L, by rw [List.append_assoc]; rfl⟩
theorem Tl.old {S S' : Store} {acc xs : List PV} {n : Nat} (h : Tl S acc S') (e : S[n]? = some xs) : S'[n]? = some xs := by
  obtain ⟨G, rfl⟩ := h
  exact get_app e
theorem Tl.len {S S' : Store} {acc : List PV} (h : Tl S acc S') : S.length < S'.length := by
  obtain ⟨G, rfl⟩ := h
  simp
theorem get_mid {S G : Store} {x : List PV} : (S ++ x :: G)[S.length]? = some x := by simp
section
variable {chk : Store → Prop} {g : PTG} {tt : PTT} {te : PTE} {E : XW} {ρ0 : PEnv} {Q : PQ} {S : Store}
theorem pLcL_gen (P : Nat → PV → Prop) (hc : ∀ acc G, chk (S ++ acc :: G)) :
    ∀ (xs acc : List PV) (G : Store) (n : Nat), (∀ (i : Nat) x, xs[i]? = some x → ∀ acc S1 Qk, Tl S acc S1 → (∀ y S', Tl S acc S' → P (n + i) y → Qk (some y) S') → lcStep g tt te E ρ0 x S1 Qk) → acc.length + xs.length ≤ 16777216 →
      (∀ ys G', ys.length = xs.length → (∀ i y, ys[i]? = some y → P (n + i) y) → Q (.lst S.length) (S ++ (acc ++ ys) :: G')) → pLcL chk g tt te E ρ0 S.length Q xs (S ++ acc :: G)
  | [], acc, G, n, _, _, q => ⟨hc acc G, by simpa using q [] G rfl (fun i y e => by simp at e)⟩
  | x :: xs, acc, G, n, h, hl, q => by
    simp only [List.length_cons] at hl
    refine ⟨hc acc G, h 0 x rfl acc _ (fun o S' => match o with
      | some y => onO S'[S.length]? fun a => a.length < 16777216 ∧ pLcL chk g tt te E ρ0 S.length Q xs (S'.set S.length (a ++ [y]))
      | none => pLcL chk g tt te E ρ0 S.length Q xs S') .base fun y S' hS hy => ?_⟩
    obtain ⟨G', rfl⟩ := hS
    refine onO_of (x := acc) get_mid ⟨by omega, ?_⟩
    have e2 : (S ++ acc :: G').set S.length (acc ++ [y]) = S ++ (acc ++ [y]) :: G' := by simp
    rw [e2]
    refine pLcL_gen P hc xs (acc ++ [y]) G' (n + 1) (fun i a ea acc S1 Qk hS hq => h (i + 1) a (by simpa using ea) acc S1 Qk hS fun z S' hS' hz => hq z S' hS' (by rw [Nat.add_assoc, Nat.add_comm 1]; exact hz)) (by simp; omega) fun ys G'' hy2 hys => ?_
    have := q (y :: ys) G'' (by simp [hy2]) fun i z e => by
      cases i with
      | zero => simp at e; subst e; exact hy
      | succ i => have := hys i z (by simpa using e); rw [Nat.add_assoc, Nat.add_comm 1] at this; exact this
    simpa using this
/-- over numbered things -/
theorem pLcL_grow {k : Nat} {a : Nat → PV} (b : Nat → PV) (hc : ∀ acc G, chk (S ++ acc :: G)) (hk : k ≤ 1000000)
    (h : ∀ i, i < k → ∀ acc S1 Qk, Tl S acc S1 → (∀ S', Tl S acc S' → Qk (some (b i)) S') → lcStep g tt te E ρ0 (a i) S1 Qk) (q : ∀ G, Q (.lst S.length) (S ++ (List.range k).map b :: G)) : pLcL chk g tt te E ρ0 S.length Q ((List.range k).map a) (S ++ [[]]) := by
  refine pLcL_gen (fun i y => y = b i) hc _ [] [] 0 (fun i x ex acc S1 Qk hS hq => ?_) (by simp; omega) fun ys G hy hys => ?_
  · have hi : i < k := by
      have := (List.getElem?_eq_some_iff.mp ex).1
      simpa using this
    rw [List.getElem?_map, List.getElem?_range hi] at ex
    cases ex
    exact h i hi acc S1 Qk hS fun S' hS' => hq _ S' hS' (by rw [Nat.zero_add])
  · have e : ys = (List.range k).map b := by
      apply List.ext_getElem?
      intro i
      by_cases hi : i < k
      · have hl : i < ys.length := by rw [hy]; simpa using hi
        have := hys i ys[i] (by simp [hl])
        rw [Nat.zero_add] at this
        rw [List.getElem?_map, List.getElem?_range hi, List.getElem?_eq_getElem hl, this]; rfl
      · rw [List.getElem?_eq_none (by rw [hy]; simpa using hi), List.getElem?_eq_none (by simpa using hi)]
    rw [List.nil_append, e]
    exact q G
/-- fractions drawn one by one -/
theorem pLcL_frs {R : Rat → Prop} (hc : ∀ acc G, chk (S ++ acc :: G)) (xs : List PV)
    (h : ∀ (i : Nat) x, xs[i]? = some x → ∀ acc S1 Qk, Tl S acc S1 → (∀ r S', Tl S acc S' → R r → Qk (some (fr r)) S') → lcStep g tt te E ρ0 x S1 Qk) (hl : xs.length ≤ 1000000)
    (q : ∀ (f : Nat → Rat) G, (∀ i, i < xs.length → R (f i)) → Q (.lst S.length) (S ++ frl xs.length f :: G)) : pLcL chk g tt te E ρ0 S.length Q xs (S ++ [[]]) := by
  refine pLcL_gen (fun _ y => ∃ r, y = fr r ∧ R r) hc xs [] [] 0 (fun i x e acc S1 Qk hS hq => h i x e acc S1 Qk hS fun r S' hS' hr => hq _ S' hS' ⟨r, rfl, hr⟩) (by simp; omega) fun ys G hy hys => ?_
  have : Inhabited Rat := ⟨0⟩
  obtain ⟨f, e, hf⟩ := get_fun (P := fun _ r => R r) (c := fr) hys
  rw [hy] at e hf
  rw [List.nil_append, e]
  exact q f G hf
theorem pLcL_intsG (lo hi : Int) (hc : ∀ acc G, chk (S ++ acc :: G)) (xs : List PV)
    (h : ∀ (i : Nat) x, xs[i]? = some x → ∀ acc S1 Qk, Tl S acc S1 → (∀ (z : Int) S', Tl S acc S' → lo ≤ z → z ≤ hi → Qk (some (.int z)) S') → lcStep g tt te E ρ0 x S1 Qk) (hl : xs.length ≤ 1000000)
    (q : ∀ (p : Nat → Int) G, (∀ i, i < xs.length → lo ≤ p i ∧ p i ≤ hi) → Q (.lst S.length) (S ++ nms xs.length p :: G)) : pLcL chk g tt te E ρ0 S.length Q xs (S ++ [[]]) := by
  refine pLcL_gen (fun _ y => ∃ z : Int, y = .int z ∧ lo ≤ z ∧ z ≤ hi) hc xs [] [] 0 (fun i x e acc S1 Qk hS hq => h i x e acc S1 Qk hS fun z S' hS' h1 h2 => hq _ S' hS' ⟨z, rfl, h1, h2⟩) (by simp; omega) fun ys G hy hys => ?_
  obtain ⟨p, e, hp⟩ := get_fun (P := fun _ z => lo ≤ z ∧ z ≤ hi) (c := PV.int) hys
  rw [hy] at e hp
  rw [List.nil_append, e]
  exact q p G hp
end
/-! ### order of fractions -/
theorem below_rat (x y : Rat) : decide (x.num * (y.den : Int) < y.num * (x.den : Int)) = decide (x < y) := by
  by_cases h : x < y
  · rw [decide_eq_true h, decide_eq_true ((Rat.lt_iff x y).mp h)]
  · rw [decide_eq_false h, decide_eq_false fun z => h ((Rat.lt_iff x y).mpr z)]
theorem fr_abs (x : Rat) : PV.tup [.int (x.num.natAbs : Int), .int (x.den : Int)] = fr x.abs := by
  unfold Rat.abs
  split
  · rename_i h
    have h2 : 0 ≤ x.num := Rat.num_nonneg.mpr h
    rw [show ((x.num.natAbs : Nat) : Int) = x.num by omega]; rfl
  · rename_i h
    have h2 : ¬ 0 ≤ x.num := fun z => h (Rat.num_nonneg.mp z)
    unfold fr
    rw [Rat.neg_num, Rat.neg_den, show ((x.num.natAbs : Nat) : Int) = -x.num by omega]
end L2.P3

namespace L2.P3
open PySem PySem.Spec PyProof.Rows L2
theorem pairs_rng {k : Nat} {a b : Nat → PV} : pairs ((List.range k).map a) ((List.range k).map b) = (List.range k).map fun i => .tup [a i, b i] := by
  unfold pairs
  apply List.ext_getElem?
  intro i
  rw [List.getElem?_zipWith]
  by_cases hi : i < k
  · rw [List.getElem?_map, List.getElem?_map, List.getElem?_map, List.getElem?_range hi]; rfl
  · rw [List.getElem?_eq_none (by simpa using hi), List.getElem?_eq_none (by simpa using hi), List.getElem?_eq_none (by simpa using hi)]
theorem pForL_rng {chk : Store → Prop} {g : PTG} {b : PTS} [MoG g] [MoS b] {E : XW} {D : PEnds} {n : Nat} {f : Nat → PV} {ρ : PEnv} {S : Store} (I : Nat → PEnv → Store → Prop) (h0 : I 0 ρ S) (hc : ∀ j ρ S, I j ρ S → chk S)
    (hs : ∀ j ρ S, j < n → I j ρ S → g E (f j) ρ S fun ρ1 S1 => b E { D with nx := I (j + 1), ct := I (j + 1), bk := D.nx } ρ1 S1) (hd : ∀ ρ S, I n ρ S → D.nx ρ S) :
    pForL chk g b E D ((List.range n).map f) ρ S := by
  refine pForL_inv I _ 0 h0 hc (fun j x ρ S e hI => ?_) (fun ρ S h => hd ρ S (by simpa using h))
  have hj : j < n := by
    have := (List.getElem?_eq_some_iff.mp e).1
    simpa using this
  rw [List.getElem?_map, List.getElem?_range hj] at e
  cases e
  rw [Nat.zero_add] at hI ⊢
  exact hs j ρ S hj hI
theorem atI_last {xs : List PV} {y : PV} : atI (xs ++ [y]) (-1) = some y := by
  unfold atI ixN
  rw [if_neg (by decide), if_pos (by simp; omega)]
  have : ((-1 : Int) + ((xs ++ [y]).length : Int)).toNat = xs.length := by simp; omega
  rw [this]; simp
theorem setI_last {xs : List PV} {y z : PV} : setI (xs ++ [y]) (-1) z = some (xs ++ [z]) := by
  unfold setI ixN
  rw [if_neg (by decide), if_pos (by simp; omega)]
  have : ((-1 : Int) + ((xs ++ [y]).length : Int)).toNat = xs.length := by simp; omega
  rw [this]; simp
/-- of whole numbers one after the other, held in bounds of their own -/
theorem frs_of {R : Nat → Rat → Prop} {xs : List PV} (h : ∀ (i : Nat) y, xs[i]? = some y → ∃ r, y = fr r ∧ R i r) : ∃ f : Nat → Rat, xs = frl xs.length f ∧ ∀ i, i < xs.length → R i (f i) := by
  have : Inhabited Rat := ⟨0⟩
  exact get_fun (P := R) (c := fr) h
theorem snoc_all {P : Nat → PV → Prop} {xs : List PV} {y : PV} (h : ∀ (i : Nat) x, xs[i]? = some x → P i x) (hy : P xs.length y) : ∀ (i : Nat) x, (xs ++ [y])[i]? = some x → P i x := fun i x e => by
  by_cases hi : i < xs.length
  · rw [List.getElem?_append_left hi] at e; exact h i x e
  · rw [List.getElem?_append_right (by omega)] at e
    have hl : i - xs.length = 0 := by
      have := (List.getElem?_eq_some_iff.mp e).1
      simp at this; omega
    rw [hl] at e
    simp at e
    subst e
    rw [show i = xs.length by omega]; exact hy
theorem abs_le_of {r u : Rat} (h : ¬ u < r.abs) : r ≤ u ∧ -u ≤ r := by
  have h : r.abs ≤ u := Rat.not_lt.mp h
  unfold Rat.abs at h
  split at h <;> constructor <;> grind
theorem rs_abs {n : Nat} {r : Rat} (h : RS n r) : RS n r.abs := by
  unfold Rat.abs
  split
  · exact h
  · exact rs_neg h
end L2.P3

namespace L2.P3
open PySem PySem.Spec PyProof.Rows L2
theorem pLcL_none {chk : Store → Prop} {g : PTG} {tt : PTT} {te : PTE} {E : XW} {ρ0 : PEnv} {Q : PQ} {S : Store} (hc : ∀ acc, chk (S ++ [acc])) (xs : List PV)
    (h : ∀ x ∈ xs, ∀ acc Qk, Qk none (S ++ [acc]) → lcStep g tt te E ρ0 x (S ++ [acc]) Qk) (hl : xs.length ≤ 16777216) (q : Q (.lst S.length) (S ++ [[]])) : pLcL chk g tt te E ρ0 S.length Q xs (S ++ [[]]) := by
  refine pLcL_pure (fun _ => none) hc xs [] h (by simpa using hl) ?_
  have e : xs.filterMap (fun _ => (none : Option PV)) = [] := by
    clear h hl
    induction xs with
    | nil => rfl
    | cons x xs ih => exact ih
  rw [e]; exact q
theorem abs_parts (x : Rat) : x.abs.num = (x.num.natAbs : Int) ∧ x.abs.den = x.den := by
  unfold Rat.abs
  split
  · rename_i h
    have h2 : 0 ≤ x.num := Rat.num_nonneg.mpr h
    exact ⟨by omega, rfl⟩
  · rename_i h
    have h2 : ¬ 0 ≤ x.num := fun z => h (Rat.num_nonneg.mp z)
    rw [Rat.neg_num, Rat.neg_den]
    exact ⟨by omega, rfl⟩
theorem abs_divInt (x : Rat) : Rat.divInt (x.num.natAbs : Int) (x.den : Int) = x.abs := by
  have h := abs_parts x
  rw [← h.1, ← h.2, Rat.num_divInt_den]
theorem abs_le {r u : Rat} (h1 : r ≤ u) (h2 : -u ≤ r) : ¬ u < r.abs := by
  unfold Rat.abs
  split <;> grind
end L2.P3

/-! ### lines with slips -/
namespace L2.P3
open PySem PySem.Spec PyProof.Rows L2
theorem sig_le {f g : Nat → Rat} : ∀ {k : Nat}, (∀ i, i < k → f i ≤ g i) → sig k f ≤ sig k g
  | 0, _ => Rat.le_refl
  | k + 1, h => by
    have h1 := sig_le (k := k) fun i hi => h i (by omega)
    have h2 := h k (by omega)
    rw [sig, sig]; grind
/-- the plain line, the slips' reach -/
def lineV (k : Nat) (f : Nat → Rat) (n : Int) : Rat := sig k fun i => f i * (bin n i : Rat)
def lineW (k : Nat) (u : Nat → Rat) (n : Int) : Rat := sig k fun i => u i * ((bin n i).natAbs : Rat)
theorem natAbs_rat (b : Int) : (b.natAbs : Rat) = if 0 ≤ b then (b : Rat) else -(b : Rat) := by
  have h : ((b.natAbs : Nat) : Rat) = (((b.natAbs : Nat) : Int) : Rat) := rfl
  rw [h]
  split
  · rw [show ((b.natAbs : Nat) : Int) = b by omega]
  · rw [show ((b.natAbs : Nat) : Int) = -b by omega, Rat.intCast_neg]
/-- the hand that pushes a line up as far as can be -/
def upHand (u : Nat → Rat) (n : Int) (j : Nat) : Rat := if 0 < bin n j then u j else if bin n j < 0 then -u j else 0
theorem rs_up {a : Nat} {n : Int} {j : Nat} {u : Nat → Rat} (h : RS a (u j)) (ha : 1 ≤ a) : RS a (upHand u n j) := by
  unfold upHand
  split
  · exact h
  · split
    · exact rs_neg h
    · exact ⟨sz_pos _, sz_one ha⟩
theorem up_in {n : Int} {j : Nat} {u : Nat → Rat} (h : 0 ≤ u j) : upHand u n j ≤ u j ∧ -u j ≤ upHand u n j := by
  unfold upHand
  split
  · constructor <;> grind
  · split <;> constructor <;> grind
theorem up_bin (u : Nat → Rat) (n : Int) (j : Nat) : upHand u n j * (bin n j : Rat) = u j * ((bin n j).natAbs : Rat) := by
  rw [natAbs_rat]
  unfold upHand
  by_cases h1 : 0 < bin n j
  · rw [if_pos h1, if_pos (by omega)]
  · rw [if_neg h1]
    by_cases h2 : bin n j < 0
    · rw [if_pos h2, if_neg (by omega)]; grind
    · rw [if_neg h2, if_pos (by omega), show bin n j = 0 by omega, show ((0 : Int) : Rat) = 0 from rfl]; grind
theorem at_hand (k : Nat) (f h : Nat → Rat) (n : Int) : (sig k fun i => (bin n i : Rat) * (f i + h i)) = lineV k f n + lineV k h n := by
  unfold lineV
  rw [← sig_add]
  exact sig_congr fun i _ => by grind
theorem line_up (k : Nat) (u : Nat → Rat) (n : Int) : lineV k (upHand u n) n = lineW k u n := sig_congr fun i _ => up_bin u n i
theorem line_neg (k : Nat) (h : Nat → Rat) (n : Int) : lineV k (fun i => -h i) n = -lineV k h n := by
  unfold lineV
  rw [sig_congr (g := fun i => (-1) * (h i * (bin n i : Rat))) fun i _ => by grind, sig_mul]; grind
theorem line_none (k : Nat) (n : Int) : lineV k (fun _ => 0) n = 0 := by
  unfold lineV
  rw [sig_congr (g := fun _ => 0) fun i _ => by grind, sig_zero]
theorem slip_le {h u : Rat} (b : Int) (h1 : h ≤ u) (h2 : -u ≤ h) : h * (b : Rat) ≤ u * (b.natAbs : Rat) ∧ -(u * (b.natAbs : Rat)) ≤ h * (b : Rat) := by
  rw [natAbs_rat]
  split
  · rename_i hb
    have hb : (0 : Rat) ≤ (b : Rat) := by exact_mod_cast hb
    have e1 := Rat.mul_le_mul_of_nonneg_left h1 hb
    have e2 := Rat.mul_le_mul_of_nonneg_left h2 hb
    constructor <;> grind
  · rename_i hb
    have hb : (0 : Rat) ≤ ((-b : Int) : Rat) := by exact_mod_cast (show (0 : Int) ≤ -b by omega)
    rw [Rat.intCast_neg] at hb
    have e1 := Rat.mul_le_mul_of_nonneg_left h1 hb
    have e2 := Rat.mul_le_mul_of_nonneg_left h2 hb
    constructor <;> grind
theorem line_in {k : Nat} {h u : Nat → Rat} (n : Int) (hh : ∀ i, i < k → h i ≤ u i ∧ -u i ≤ h i) : lineV k h n ≤ lineW k u n ∧ -lineW k u n ≤ lineV k h n := by
  refine ⟨sig_le fun i hi => (slip_le _ (hh i hi).1 (hh i hi).2).1, ?_⟩
  have : (sig k fun i => -(u i * ((bin n i).natAbs : Rat))) ≤ lineV k h n := sig_le fun i hi => (slip_le _ (hh i hi).1 (hh i hi).2).2
  rw [sig_congr (g := fun i => (-1) * (u i * ((bin n i).natAbs : Rat))) fun i _ => by grind, sig_mul] at this
  unfold lineW
  grind
theorem rs_lineW {n : Int} {k B a c : Nat} {f : Nat → Rat} (hn : Sz B n) (hj : Sz B (k : Int)) (ha : ∀ i, i < k → RS a (f i)) (hc : (a + ((B + 1) * k + 1) + 1) * k + 1 ≤ c) (i : Nat) (hi : i ≤ k) : RS c (sig i fun i => f i * ((bin n i).natAbs : Rat)) := by
  have hb : ∀ i, i < k → RS ((B + 1) * k + 1) (((bin n i).natAbs : Int) : Rat) := fun i hi => rs_int (by
    have := (sz_bin hn hj i (by omega)).mono (show (B + 1) * i + 1 ≤ (B + 1) * k + 1 by have := Nat.mul_le_mul_left (B + 1) (Nat.le_of_lt hi); omega)
    unfold Sz at *; omega) (by omega)
  refine (rs_sig (a := a + ((B + 1) * k + 1)) fun t ht => (ha t (by omega)).mul (hb t (by omega))).mono ?_
  have := Nat.mul_le_mul_left (a + ((B + 1) * k + 1) + 1) hi
  omega
theorem rs_lineV {n : Int} {k B a c : Nat} {f : Nat → Rat} (hn : Sz B n) (hj : Sz B (k : Int)) (ha : ∀ i, i < k → RS a (f i)) (hc : (a + ((B + 1) * k + 1) + 1) * k + 1 ≤ c) (i : Nat) (hi : i ≤ k) : RS c (sig i fun i => f i * (bin n i : Rat)) := by
  have hb : ∀ i, i < k → RS ((B + 1) * k + 1) (bin n i : Rat) := fun i hi => rs_int ((sz_bin hn hj i (by omega)).mono (by have := Nat.mul_le_mul_left (B + 1) (Nat.le_of_lt hi); omega)) (by omega)
  refine (rs_sig (a := a + ((B + 1) * k + 1)) fun t ht => (ha t (by omega)).mul (hb t (by omega))).mono ?_
  have := Nat.mul_le_mul_left (a + ((B + 1) * k + 1) + 1) hi
  omega
theorem rs_lineA {n : Int} {k B a c : Nat} {f h : Nat → Rat} (hn : Sz B n) (hj : Sz B (k : Int)) (ha : ∀ i, i < k → RS a (f i)) (hh : ∀ i, i < k → RS a (h i)) (hc : (2 * a + 1 + ((B + 1) * k + 1) + 1) * k + 1 ≤ c) (i : Nat) (hi : i ≤ k) : RS c (sig i fun i => (bin n i : Rat) * (f i + h i)) := by
  have hb : ∀ i, i < k → RS ((B + 1) * k + 1) (bin n i : Rat) := fun i hi => rs_int ((sz_bin hn hj i (by omega)).mono (by have := Nat.mul_le_mul_left (B + 1) (Nat.le_of_lt hi); omega)) (by omega)
  refine (rs_sig (a := 2 * a + 1 + ((B + 1) * k + 1)) fun t ht => ((hb t (by omega)).mul ((ha t (by omega)).add (hh t (by omega)))).mono (by omega)).mono ?_
  have := Nat.mul_le_mul_left (2 * a + 1 + ((B + 1) * k + 1) + 1) hi
  omega
end L2.P3

/-! ### columns turned on -/
namespace L2.P3
open PySem PySem.Spec PyProof.Rows L2
theorem pairs_rng2 {k k' : Nat} {a b : Nat → PV} : pairs ((List.range k).map a) ((List.range k').map b) = (List.range (min k k')).map fun i => .tup [a i, b i] := by
  unfold pairs
  apply List.ext_getElem?
  intro i
  rw [List.getElem?_zipWith]
  by_cases hi : i < k
  · by_cases hj : i < k'
    · rw [List.getElem?_map, List.getElem?_map, List.getElem?_map, List.getElem?_range hi, List.getElem?_range hj, List.getElem?_range (by omega)]; rfl
    · rw [List.getElem?_eq_none (l := (List.range k').map b) (by simpa using hj), List.getElem?_eq_none (l := List.map _ (List.range (min k k'))) (by simp; omega)]
      cases ((List.range k).map a)[i]? <;> rfl
  · rw [List.getElem?_eq_none (l := (List.range k).map a) (by simpa using hi), List.getElem?_eq_none (l := List.map _ (List.range (min k k'))) (by simp; omega)]
/-- the column of an order -/
def colV (k : Nat) (g : Nat → Rat) (n : Int) (o : Nat) : Rat := lineV (k - o) (fun j => g (o + j)) n
theorem lin_line (k : Nat) (g : Nat → Rat) (n : Int) : lin k g n = lineV k g n := sig_congr fun i _ => by grind
theorem colV_next {k o : Nat} {g : Nat → Rat} {n : Int} (h : o + 1 < k) : colV k g n o + colV k g n (o + 1) = colV k g (n + 1) o := by
  unfold colV
  have e : k - o = (k - (o + 1)) + 1 := by omega
  rw [e, ← lin_line, ← lin_line, ← lin_line, bin_lin]
  congr 1
  unfold lin
  exact sig_congr fun j _ => by dsimp only; rw [show o + (j + 1) = o + 1 + j by omega]
theorem colV_last {k o : Nat} {g : Nat → Rat} {n m : Int} (h : o + 1 = k) : colV k g n o = colV k g m o := by
  unfold colV lineV
  rw [show k - o = 1 by omega]
  simp only [sig, bin_zero]
theorem colV_zero {k : Nat} {g : Nat → Rat} {n : Int} : colV k g n 0 = lineV k g n := by
  unfold colV
  rw [Nat.sub_zero]
  exact sig_congr fun j _ => by dsimp only; rw [Nat.zero_add]
end L2.P3

namespace L2.P3
open PySem PySem.Spec PyProof.Rows L2
theorem cut_from {α : Type} {xs : List α} {o : Nat} (h : o ≤ xs.length) : cutP xs (some (o : Int)) none = xs.drop o := by
  unfold cutP
  rw [HT.sIx_nat, HT.sIx_none, Nat.min_eq_left h]
  exact List.take_of_length_le (by simp)
theorem cut_to {α : Type} {xs : List α} {o : Nat} (h : o ≤ xs.length) : cutP xs none (some (o : Int)) = xs.take o := by
  unfold cutP
  rw [HT.sIx_nat, HT.sIx_none, Nat.min_eq_left h]
  simp
theorem cut_last {α : Type} {xs : List α} (h : 1 ≤ xs.length) : cutP xs (some (-1)) none = xs.drop (xs.length - 1) := by
  unfold cutP
  rw [HT.sIx_none, show HT.sIx xs.length 0 (some (-1)) = xs.length - 1 from by
    show (if (-1 : Int) < 0 then ((-1 : Int) + (xs.length : Int)).toNat else min (-1 : Int).toNat xs.length) = _
    rw [if_pos (by decide)]; omega]
  exact List.take_of_length_le (by simp)
theorem frs_drop {k o : Nat} {g : Nat → Rat} : (frl k g).drop o = frl (k - o) fun j => g (o + j) := by
  unfold frl
  apply List.ext_getElem?
  intro i
  rw [List.getElem?_drop]
  by_cases hi : o + i < k
  · rw [List.getElem?_map, List.getElem?_map, List.getElem?_range hi, List.getElem?_range (by omega)]; rfl
  · rw [List.getElem?_eq_none (by simpa using hi), List.getElem?_eq_none (by simp; omega)]
end L2.P3
/-! tuple(range(..)), list(range(..)); x in a sequence of plain items -/
namespace L2.P3
open PySem PySem.Spec PyProof.Rows L2
/-! ### range(..) made a tuple or a list -/
def rgP (a b : Int) : List PV := (List.range (b - a).toNat).map fun i => PV.int (a + (i : Nat))
abbrev PTR := XW → PEnv → Store → (Int → Int → Store → Prop) → Prop
structure QR (bk : BagKind) (X : Cx) (e : Expr) (f : PTR) : Prop where
  ex : ∃ t, PRg X e t ∧ ∀ (E : XW) M ρ S σ H R R', Rel X.K bk M ρ S σ H → f E ρ S R → (∀ M' S' H' a b, Step M H M' H' → Sto X.K bk M' S' H' → R a b S' → R' a b H') → t σ H R'
def rOne (f : PTE) : PTR := fun E ρ S R => f E ρ S fun x S1 => match x with
  | .int n => R 0 n S1
  | _ => False
def rTwo (f g : PTE) : PTR := fun E ρ S R => f E ρ S fun x S1 => g E ρ S1 fun y S2 => match x, y with
  | .int i, .int j => R i j S2
  | _, _ => False
def pTupR (r : PTR) : PTE := fun E ρ S Q => r E ρ S fun a b S1 => RgOk a b ∧ Q (.tup (rgP a b)) S1
def pLstR (r : PTR) : PTE := fun E ρ S Q => r E ρ S fun a b S1 => RgOk a b ∧ Q (.lst S1.length) (S1 ++ [rgP a b])
class MoR (f : PTR) : Prop where
  mo : ∀ {E ρ S} {R R' : Int → Int → Store → Prop}, (∀ a b S, R a b S → R' a b S) → f E ρ S R → f E ρ S R'
instance {f : PTE} [MoE f] : MoR (rOne f) := ⟨fun h q => MoE.mo (f := f) (fun x _ q => by cases x <;> first | exact q.elim | exact h _ _ _ q) q⟩
instance {f g : PTE} [MoE f] [MoE g] : MoR (rTwo f g) := ⟨fun h q => MoE.mo (f := f) (fun x _ q => MoE.mo (f := g) (fun y _ q => by cases x <;> cases y <;> first | exact q.elim | exact h _ _ _ q) q) q⟩
instance {r : PTR} [MoR r] : MoE (pTupR r) := ⟨fun h q => MoR.mo (f := r) (fun _ _ _ q => ⟨q.1, h _ _ q.2⟩) q⟩
instance {r : PTR} [MoR r] : MoE (pLstR r) := ⟨fun h q => MoR.mo (f := r) (fun _ _ _ q => ⟨q.1, h _ _ q.2⟩) q⟩
theorem rps_rg {K : PySem.W.Frag} {r : Nat} {M : Am} {H : Hp} : ∀ (n : Nat) (f : Nat → Int), Rps K r M H ((List.range n).map fun i => PV.int (f i)) ((List.range n).map fun i => V.int (f i))
  | 0, _ => .nil
  | n + 1, f => by
    rw [List.range_succ_eq_map, List.map_cons, List.map_map, List.map_cons, List.map_map]
    exact .cons to_int (rps_rg n fun i => f (i + 1))
section
variable {bk : BagKind} {X : Cx} {pos p : Pos} {a b e : Expr} {f g : PTE} {r : PTR}
theorem qr_one (hg : Gl X "range") (hm : X.mg "range" = none) (ha : QE bk X a f) (na : starEach [a] X.env = (false, eval a X.env) :: starEach [] X.env := by rfl) : QR bk X (.Call (.Name "range" p) [a] [] pos) (rOne f) := by
  obtain ⟨ta, pa, wa⟩ := ha.ex
  refine ⟨_, prg_1 hg hm pa na, fun E M ρ S σ H R R' rel q k => ?_⟩
  refine wa E M ρ S σ H _ _ rel q fun M1 S1 H1 x v t1 s1 r1 q1 => ?_
  cases x <;> first | exact q1.elim | skip
  obtain rfl := rp_int r1
  exact ⟨_, rfl, k M1 S1 H1 _ _ t1 s1 q1⟩
theorem qr_two (hg : Gl X "range") (hm : X.mg "range" = none) (ha : QE bk X a f) (hb : QE bk X b g) (na : starEach [a, b] X.env = (false, eval a X.env) :: starEach [b] X.env := by rfl) (nb : starEach [b] X.env = (false, eval b X.env) :: starEach [] X.env := by rfl)
    (hp : (backTo pos (starEach [b] X.env)).any (·.1) = false := by rfl) : QR bk X (.Call (.Name "range" p) [a, b] [] pos) (rTwo f g) := by
  obtain ⟨ta, pa, wa⟩ := ha.ex
  obtain ⟨tb, pb, wb⟩ := hb.ex
  refine ⟨_, prg_2 hg hm pa pb na nb hp, fun E M ρ S σ H R R' rel q k => ?_⟩
  refine wa E M ρ S σ H _ _ rel q fun M1 S1 H1 x v t1 s1 r1 q1 => ?_
  refine wb E M1 ρ S1 σ H1 _ _ (rel.step t1 s1) q1 fun M2 S2 H2 y w t2 s2 r2 q2 => ?_
  cases x <;> cases y <;> first | exact q2.elim | skip
  obtain rfl := rp_int r1
  obtain rfl := rp_int r2
  exact ⟨_, _, rfl, rfl, k M2 S2 H2 _ _ (t1.trans t2) s2 q2⟩
theorem q_tupR (hc : X.calm = true) (hg : Gl X "tuple") (hm : X.mg "tuple" = none) (he : QR bk X e r) (na : starEach [e] X.env = (false, eval e X.env) :: starEach [] X.env := by rfl) : QE bk X (.Call (.Name "tuple" p) [e] [] pos) (pTupR r) := by
  obtain ⟨t, pt, wt⟩ := he.ex
  refine ⟨_, pe_tupRg hc hg hm pt na, fun E M ρ S σ H Q Q' R q p => ?_⟩
  refine wt E M ρ S σ H _ _ R q fun M1 S1 H1 a b t1 s1 q1 => ?_
  exact ⟨q1.1, (p.after t1).tup s1 (rps_rg _ _) q1.2⟩
theorem q_lstR (hc : X.calm = true) (hg : Gl X "list") (hm : X.mg "list" = none) (he : QR bk X e r) (na : starEach [e] X.env = (false, eval e X.env) :: starEach [] X.env := by rfl) : QE bk X (.Call (.Name "list" p) [e] [] pos) (pLstR r) := by
  obtain ⟨t, pt, wt⟩ := he.ex
  refine ⟨_, pe_listRg hc hg hm pt na, fun E M ρ S σ H Q Q' R q p => ?_⟩
  refine wt E M ρ S σ H _ _ R q fun M1 S1 H1 a b t1 s1 q1 => ?_
  exact ⟨q1.1, (p.after t1).lst s1 (rps_rg _ _) q1.2⟩
end
/-! ### x in xs -/
def svs : List PV → Option (List V)
  | [] => some []
  | x :: xs => match sv x, svs xs with
    | some v, some vs => some (v :: vs)
    | _, _ => none
def oIn : PO2 := fun x y S Q => onO (sv x) fun v => onO (its S y) fun xs => onO (svs xs) fun vs => Q (.bl (inV v vs)) S
def oNotIn : PO2 := fun x y S Q => onO (sv x) fun v => onO (its S y) fun xs => onO (svs xs) fun vs => Q (.bl (!inV v vs)) S
instance : Mo2 oIn := ⟨fun h q => onO_mo (fun _ q => onO_mo (fun _ q => onO_mo (fun _ q => h _ _ q) q) q) q⟩
instance : Mo2 oNotIn := ⟨fun h q => onO_mo (fun _ q => onO_mo (fun _ q => onO_mo (fun _ q => h _ _ q) q) q) q⟩
section
variable {bk : BagKind} {K : PySem.W.Frag} {M : Am} {S : Store} {H : Hp}
theorem sv_is {x : PV} {v w : V} {r : Nat} (h : Rp K r M H x v) (e : sv x = some w) : v = w ∧ flatV w = true := by
  cases x <;> simp only [sv] at e <;> try (cases e)
  · exact ⟨rp_non h, rfl⟩
  · exact ⟨rp_bl h, rfl⟩
  · exact ⟨rp_int h, rfl⟩
  · exact ⟨rp_str h, rfl⟩
theorem svs_is {r : Nat} : ∀ {xs : List PV} {vs ws : List V}, Rps K r M H xs vs → svs xs = some ws → vs = ws ∧ ws.all flatV = true
  | [], vs, ws, h, e => by
    rw [Rps] at h
    subst h
    cases e
    exact ⟨rfl, rfl⟩
  | x :: xs, vs, ws, h, e => by
    rw [Rps] at h
    obtain ⟨v, us, rfl, h1, h2⟩ := h
    rw [svs] at e
    split at e
    · rename_i a b e1 e2
      cases e
      obtain ⟨rfl, f1⟩ := sv_is h1 e1
      obtain ⟨rfl, f2⟩ := svs_is h2 e2
      exact ⟨rfl, by rw [List.all_cons, f1, f2]; rfl⟩
    · cases e
theorem in_rule {x y : PV} {v w : V} {u : V} {xs : List PV} {us : List V} (s : Sto K bk M S H) (r1 : Rp K bk.root M H x v) (r2 : Rp K bk.root M H y w) (e1 : sv x = some u) (e2 : its S y = some xs) (e3 : svs xs = some us) :
    v = u ∧ flatV u = true ∧ ∃ p, w = .ref p ∧ (SqL K H p us ∨ SqT K H p us) ∧ us.all flatV = true := by
  obtain ⟨rfl, f1⟩ := sv_is r1 e1
  obtain ⟨a, vs, rfl, q, rs⟩ := its_side s r2 e2
  obtain ⟨rfl, f2⟩ := svs_is rs e3
  refine ⟨rfl, f1, a, rfl, ?_, f2⟩
  cases h : isTup y
  · rw [h] at q; exact .inl q
  · rw [h] at q; exact .inr q
theorem oInP : OpP bk K (rIn K false) oIn := fun M S H x y v w Q Q' s r1 r2 q p => by
  obtain ⟨u, e1, q⟩ := onO_ex q
  obtain ⟨xs, e2, q⟩ := onO_ex q
  obtain ⟨us, e3, q⟩ := onO_ex q
  obtain ⟨rfl, f1, a, rfl, h, f2⟩ := in_rule s r1 r2 e1 e2 e3
  exact ⟨a, us, rfl, h, f1, f2, p M S H _ _ (.refl M H) s to_bl q⟩
theorem oNotInP : OpP bk K (rIn K true) oNotIn := fun M S H x y v w Q Q' s r1 r2 q p => by
  obtain ⟨u, e1, q⟩ := onO_ex q
  obtain ⟨xs, e2, q⟩ := onO_ex q
  obtain ⟨us, e3, q⟩ := onO_ex q
  obtain ⟨rfl, f1, a, rfl, h, f2⟩ := in_rule s r1 r2 e1 e2 e3
  exact ⟨a, us, rfl, h, f1, f2, p M S H _ _ (.refl M H) s to_bl q⟩
end
end L2.P3

namespace L2.P3
open PySem PySem.Spec PyProof.Rows L2
/-- the stripe of a print -/
def stp (y p : Int) (mode : Str) : PV :=
  if mode = "down" then .tup [fr (Rat.divInt y (10 ^ p.toNat)), fr (Rat.divInt (y + 1) (10 ^ p.toNat)), .bl true, .bl false]
  else if mode = "even" then .tup [fr (Rat.divInt (2 * y - 1) (2 * 10 ^ p.toNat)), fr (Rat.divInt (2 * y + 1) (2 * 10 ^ p.toNat)), .bl (decide (y % 2 = 0)), .bl (decide (y % 2 = 0))]
  else .tup [fr (Rat.divInt (2 * y - 1) (2 * 10 ^ p.toNat)), fr (Rat.divInt (2 * y + 1) (2 * 10 ^ p.toNat)), .bl true, .bl false]
theorem stp_dat (y p : Int) (mode : Str) : dat true 6 (stp y p mode) = true := by
  unfold stp
  split
  · simp [dat, dats, dat_fr]
  · split <;> simp [dat, dats, dat_fr]
theorem sz_two10 {p : Int} (h1 : p ≤ 1000) : Sz 4003 (2 * 10 ^ p.toNat) := by
  have := (show Sz 2 2 by unfold Sz; decide).mul (sz_pow10 p.toNat)
  exact this.mono (by omega)
end L2.P3

/-! ### prints rise with their numbers -/
namespace L2.P3
open PySem PySem.Spec PyProof.Rows L2
theorem floor_le {x y : Rat} (h : x ≤ y) : x.floor ≤ y.floor := Rat.le_floor_iff.mpr (Rat.le_trans (Rat.floor_le x) h)
theorem floor_two {x : Rat} (h : x.den = 2) : (((x + 1 / 2).floor : Int) : Rat) = x + 1 / 2 := by
  have co := x.reduced
  rw [h] at co
  have hodd : x.num % 2 = 1 := by
    have h1 : Nat.gcd x.num.natAbs 2 = 1 := co
    have h2 : x.num.natAbs % 2 = 1 := by
      rcases Nat.mod_two_eq_zero_or_one x.num.natAbs with h0 | h0
      · exfalso
        have : 2 ∣ Nat.gcd x.num.natAbs 2 := Nat.dvd_gcd (Nat.dvd_of_mod_eq_zero h0) (Nat.dvd_refl 2)
        rw [h1] at this
        omega
      · exact h0
    omega
  obtain ⟨m, hm⟩ : ∃ m : Int, x.num = 2 * m + 1 := ⟨x.num / 2, by omega⟩
  have e : x + 1 / 2 = ((m + 1 : Int) : Rat) := by
    have e1 := Rat.num_divInt_den x
    rw [h, hm, Rat.divInt_eq_div] at e1
    rw [← e1, Rat.intCast_add, Rat.intCast_add, Rat.intCast_mul]
    have a1 : ((2 : Int) : Rat) = 2 := rfl
    have a2 : ((1 : Int) : Rat) = 1 := rfl
    have a3 : (((2 : Nat) : Int) : Rat) = 2 := rfl
    rw [a1, a2, a3]; grind
  rw [e, Rat.floor_intCast]
theorem prn_le {x y : Rat} (h : x ≤ y) (mode : Str) : prn x mode ≤ prn y mode := by
  unfold prn
  by_cases hd : mode = "down"
  · rw [if_pos hd, if_pos hd]; exact floor_le h
  · rw [if_neg hd, if_neg hd]
    have hf : (x + 1 / 2).floor ≤ (y + 1 / 2).floor := floor_le (by grind)
    by_cases hy : mode = "even" ∧ y.den = 2 ∧ (y + 1 / 2).floor % 2 = 1
    · by_cases hx : mode = "even" ∧ x.den = 2 ∧ (x + 1 / 2).floor % 2 = 1
      · rw [if_pos hy, if_pos hx]; omega
      · rw [if_pos hy, if_neg hx]
        by_cases e : (x + 1 / 2).floor = (y + 1 / 2).floor
        · exfalso
          have h1 := floor_two hy.2.1
          have h2 := Rat.floor_le (x + 1 / 2)
          rw [e, h1] at h2
          have : x = y := by grind
          subst this
          exact hx hy
        · omega
    · by_cases hx : mode = "even" ∧ x.den = 2 ∧ (x + 1 / 2).floor % 2 = 1
      · rw [if_neg hy, if_pos hx]; omega
      · rw [if_neg hy, if_neg hx]; exact hf
/-- the print of a number to places -/
def prt (x : Rat) (places : Int) (mode : Str) : Int := prn (x * ((10 ^ places.toNat : Int) : Rat)) mode
theorem prt_le {x y : Rat} (h : x ≤ y) (places : Int) (mode : Str) : prt x places mode ≤ prt y places mode := by
  refine prn_le ?_ mode
  have := Rat.mul_le_mul_of_nonneg_left h (show (0 : Rat) ≤ ((10 ^ places.toNat : Int) : Rat) by exact_mod_cast Int.le_of_lt (pow10_pos _))
  rw [Rat.mul_comm x, Rat.mul_comm y]; exact this
theorem svs_nms {k : Nat} {f : Nat → Int} : svs ((List.range k).map fun i => PV.int (f i)) = some ((List.range k).map fun i => V.int (f i)) := by
  have : ∀ l : List Nat, svs (l.map fun i => PV.int (f i)) = some (l.map fun i => V.int (f i)) := fun l => by
    induction l with
    | nil => rfl
    | cons a l ih => rw [List.map_cons, svs, ih]; rfl
  exact this _
theorem inV_rg {p a b : Int} (h0 : a ≤ p) (h1 : p < b) : inV (.int p) ((List.range (b - a).toNat).map fun i => V.int (a + (i : Nat))) = true := by
  unfold inV
  rw [List.any_eq_true]
  refine ⟨.int p, List.mem_map.mpr ⟨(p - a).toNat, List.mem_range.mpr (by omega), ?_⟩, ?_⟩
  · rw [show a + (((p - a).toNat : Nat) : Int) = p by omega]
  · simp [eqV]
theorem sz_prt {n : Nat} {x : Rat} (h : RS n x) {p : Int} (h1 : p ≤ 50) (mode : Str) : Sz (n + 205) (prt x p mode) :=
  (sz_prn (h.mul (rs_int ((sz_pow10 p.toNat).mono (show 4 * p.toNat + 1 ≤ 201 by omega)) (by decide))) mode).mono (by omega)
end L2.P3

/-! ### how great lines and prints can be -/
namespace L2.P3
open PySem PySem.Spec PyProof.Rows L2
theorem rs_le {n : Nat} {x : Rat} (h : RS n x) : -(((2 ^ n : Int)) : Rat) ≤ x ∧ x ≤ (((2 ^ n : Int)) : Rat) := by
  have h1 := h.1
  unfold Sz at h1
  have e : ((2 ^ n : Nat) : Int) = 2 ^ n := by norm_cast
  have hd : (1 : Int) ≤ x.den := by have := x.den_pos; omega
  have h2 : (2 ^ n : Int) * 1 ≤ 2 ^ n * x.den := Int.mul_le_mul_of_nonneg_left hd (by omega)
  rw [← Rat.intCast_neg, Rat.le_iff, Rat.le_iff]
  rw [Rat.num_intCast, Rat.den_intCast, Rat.num_intCast, Rat.den_intCast, Int.neg_mul]
  generalize (2 ^ n : Int) * x.den = z at *
  generalize (2 ^ n : Int) = y at *
  generalize 2 ^ n = w at *
  constructor <;> omega
theorem sig_const (c : Rat) : ∀ k : Nat, sig k (fun _ => c) = k * c
  | 0 => by rw [sig]; show (0 : Rat) = ((0 : Nat) : Rat) * c; have : ((0 : Nat) : Rat) = 0 := rfl; rw [this]; grind
  | k + 1 => by
    rw [sig, sig_const c k]
    have : ((k + 1 : Nat) : Rat) = (k : Rat) + 1 := by norm_cast
    rw [this]; grind
theorem lineW_le {k : Nat} {u : Nat → Rat} {n : Int} {a b : Int} (a0 : 0 ≤ a) (hu : ∀ i, i < k → u i ≤ (a : Rat)) (hb : ∀ i, i < k → ((bin n i).natAbs : Int) ≤ b) : lineW k u n ≤ ((k * (a * b) : Int) : Rat) := by
  have h : lineW k u n ≤ sig k fun _ => ((a * b : Int) : Rat) := sig_le fun i hi => by
    have b0 : (0 : Rat) ≤ ((bin n i).natAbs : Rat) := by exact_mod_cast Nat.zero_le _
    have h1 := Rat.mul_le_mul_of_nonneg_left (hu i hi) b0
    have h2 : (((bin n i).natAbs : Int) : Rat) ≤ (b : Rat) := by exact_mod_cast hb i hi
    have a1 : (0 : Rat) ≤ (a : Rat) := by exact_mod_cast a0
    have h3 := Rat.mul_le_mul_of_nonneg_left h2 a1
    rw [Rat.intCast_mul]
    have e : (((bin n i).natAbs : Int) : Rat) = ((bin n i).natAbs : Rat) := rfl
    rw [e] at h3
    grind
  rw [sig_const] at h
  have : ((k * (a * b) : Int) : Rat) = (k : Rat) * ((a * b : Int) : Rat) := by rw [Rat.intCast_mul]; rfl
  rw [this]; exact h
theorem lineV_le {k : Nat} {f : Nat → Rat} {n : Int} {a b : Int} (a0 : 0 ≤ a) (hf : ∀ i, i < k → f i ≤ (a : Rat) ∧ -(a : Rat) ≤ f i) (hb : ∀ i, i < k → ((bin n i).natAbs : Int) ≤ b) : lineV k f n ≤ ((k * (a * b) : Int) : Rat) ∧ -((k * (a * b) : Int) : Rat) ≤ lineV k f n := by
  have h1 := line_in (u := fun _ => (a : Rat)) n hf
  have h2 := lineW_le (u := fun _ => (a : Rat)) a0 (fun i hi => Rat.le_refl) hb
  constructor <;> grind
theorem prn_whole (i : Int) (mode : Str) : prn (i : Rat) mode = i := by
  have h1 : ((i : Rat) + 1 / 2).floor = i := floor_eq (by grind) (by rw [Rat.intCast_add]; have : ((1 : Int) : Rat) = 1 := rfl; rw [this]; grind)
  unfold prn
  rw [h1, Rat.floor_intCast, Rat.den_intCast]
  split
  · rfl
  · rw [if_neg (by rintro ⟨_, h, _⟩; cases h)]
theorem prt_in {x : Rat} {c : Int} (h1 : x ≤ (c : Rat)) (h2 : -(c : Rat) ≤ x) (places : Int) (mode : Str) : prt x places mode ≤ c * 10 ^ places.toNat ∧ -(c * 10 ^ places.toNat) ≤ prt x places mode := by
  have a := prt_le h1 places mode
  have b := prt_le h2 places mode
  have e1 : prt (c : Rat) places mode = c * 10 ^ places.toNat := by unfold prt; rw [← Rat.intCast_mul, prn_whole]
  have e2 : prt (-(c : Rat)) places mode = -(c * 10 ^ places.toNat) := by unfold prt; rw [← Rat.intCast_neg, ← Rat.intCast_mul, prn_whole, Int.neg_mul]
  rw [e1] at a
  rw [e2] at b
  exact ⟨a, b⟩
theorem bin_le {B : Nat} {n : Int} (hn : Sz B n) {k : Nat} (hk : Sz B (k : Int)) {m : Nat} (hm : (B + 1) * k + 1 ≤ m) (j : Nat) (h : j ≤ k) : ((bin n j).natAbs : Int) ≤ 2 ^ m := by
  have h1 := (sz_bin hn hk j h).mono (show (B + 1) * j + 1 ≤ m by have := Nat.mul_le_mul_left (B + 1) h; omega)
  unfold Sz at h1
  have e : ((2 ^ m : Nat) : Int) = 2 ^ m := by norm_cast
  omega
end L2.P3
namespace L2.P3
theorem dat_tup {st : Bool} {n : Nat} {xs : List PV} (h : xs.length ≤ 100000) (d : dats st n xs = true) : dat st (n + 1) (.tup xs) = true := by
  unfold dat
  rw [Bool.and_eq_true]
  exact ⟨decide_eq_true (by omega), d⟩
end L2.P3
/-! P3ga: a generator expression that is summed at once: its frame, its turns. -/
namespace L2.P3
open PySem PySem.Spec PyProof.Rows GenW L2

/-- the context of a generator expression's frame -/
abbrev gblk (X : Cx) (s : Shared) (H : Hp) (scope : Scope) (cenv : Env) (fp : List Addr) (A : Around) : Cx :=
  { X with A := A, s_0 := s, H_0 := H, env := cenv, outer := X.stack, stack := cenv :: X.stack, ex := fp, fn := fun x => scope.names.lookup x == some .cell, pn := [], xe := fun _ _ => False }
section
variable {X : Cx} {pins : List (Addr × Obj)} {σ : St} {H : Hp} {s : Shared}
theorem gen_start {scope : Scope} {own : List (Str × Nat)} {fp : List Addr} {code : Value} {A' : Around} {s5 : Shared} {m0 : Str → Option Value} (I : Inv X pins σ H s) (ok : BlkOk X.N X.env.scope scope own) (hcell : ∀ y ∈ scope.names, y.2 ≠ .cell) (hN : X.N.Nodup) (hfp : ∀ b ∈ fp, FpOk X pins H b ∧ b < s.heap.objs.size)
    (hA : A'.handled = none) (hfr : A'.frames = some (genEnv scope (cloFrom X.env.cells scope.names []) s.heap.objs.size code builtinsNs X.env :: X.stack)) (os : s5.os = s.os) (bare : AllBare s5.gens) (kp : ∀ b o, s.heap.get? b = some o → s5.heap.get? b = some o) (ns : s5.heap.Ns s.heap.objs.size m0) :
    Inv (gblk X s H scope (genEnv scope (cloFrom X.env.cells scope.names []) s.heap.objs.size code builtinsNs X.env) fp A') [] (wipe σ (own.map (·.2))) H s5 := by
  have hfree : ∀ y ∈ scope.names, y.2 = .free → ∃ c, X.env.cells.lookup y.1 = some c := fun y hy e => by
    rcases ok.free y hy e with k | k
    · exact I.ok.has _ (.inl k)
    · exact I.ok.has _ (.inr k)
  generalize hcenv : genEnv scope (cloFrom X.env.cells scope.names []) s.heap.objs.size code builtinsNs X.env = cenv at hfr ⊢
  have hL : cenv.locals = s.heap.objs.size := by rw [← hcenv]; rfl
  have hcl : cenv.cells = cloFrom X.env.cells scope.names [] := by rw [← hcenv]; rfl
  have hsc : cenv.scope = scope := by rw [← hcenv]; rfl
  have cm : ∀ {y c}, (y, c) ∈ cloFrom X.env.cells scope.names [] → X.env.cells.lookup y = some c ∧ c < s.heap.objs.size := fun {y c} hm => by
    rcases cloFrom_mem hm with hm | ⟨h1, rfl⟩
    · cases hm
    · obtain ⟨c, hc⟩ := hfree _ h1 rfl
      rw [hc]
      obtain ⟨w, z⟩ := I.cell _ _ hc
      exact ⟨rfl, z.lt⟩
  have mem : ∀ {y c}, cenv.cells.lookup y = some c → X.env.cells.lookup y = some c ∧ c < s.heap.objs.size := fun {y c} e => by
    rw [hcl] at e
    exact cm (PySem.mem_of_lookup e)
  have look : ∀ {y}, scope.names.lookup y = some .free → ∃ c, cenv.cells.lookup y = some c ∧ X.env.cells.lookup y = some c := fun {y} hl => by
    have hy : (y, NameKind.free) ∈ scope.names := PySem.mem_of_lookup hl
    obtain ⟨c', e'⟩ := mem_lookup (cloFrom_has (cells := X.env.cells) (acc := []) hy)
    rw [← hcl] at e'
    exact ⟨c', e', (mem e').1⟩
  have noCell : ∀ {y}, scope.names.lookup y = some .cell → False := fun {y} e => hcell _ (PySem.mem_of_lookup e) rfl
  have okB : (gblk X s H scope cenv fp A').Ok := by
    refine ⟨I.ok.mod, by show cenv.scope.kind = _; rw [hsc]; exact ok.kind, by show cenv.globals = _; rw [← hcenv]; exact I.ok.glob, by show cenv.builtins = _; rw [← hcenv]; rfl, by show s.heap.objs.size ≤ cenv.locals; rw [hL]; exact Nat.le_refl _,
      fun y z c e1 e2 => I.ok.inj y z c (mem e1).1 (mem e2).1, fun y hy => ?_, fun y c z e => ?_, fun _ => hA, hfr, .inr ⟨rfl, by show cenv.frame = some cenv.locals; rw [← hcenv]; rfl⟩, fun b hb => ⟨?_, fun y c e z => ?_⟩, I.bs, Nat.le_trans I.ok.bsz I.sz, fun b o e hb => ?_, fun b hb z => ?_, I.stack, I.stkFree⟩
    · show ∃ c, cenv.cells.lookup y = some c
      rcases hy with hy | hy
      · have hy : cenv.scope.names.lookup y = some .cell := hy
        rw [hsc] at hy
        exact (noCell hy).elim
      · have hy : cenv.scope.names.lookup y = some .free := hy
        rw [hsc] at hy
        obtain ⟨c, h1, _⟩ := look hy
        exact ⟨c, h1⟩
    · have z : (scope.names.lookup y == some NameKind.cell) = true := z
      exact (noCell (by simpa using z)).elim
    · show b ≠ cenv.locals
      rw [hL]; exact Nat.ne_of_lt (hfp b hb).2
    · exact (hfp b hb).1.2.2.2.2.1 y c (mem (show cenv.cells.lookup y = some c from e)).1 z
    · rcases (hfp b hb).1.2.2.2.1 with z | z
      · exact I.ok.noex b o e z
      · exact absurd (Nat.lt_of_lt_of_le (Heap.lt_size e) (Nat.le_trans I.ok.bsz z)) (Nat.lt_irrefl _)
    · rcases List.mem_cons.mp (I.stkSub b z) with z | z
      · exact (hfp b hb).1.2.1 z
      · exact (hfp b hb).1.2.2.1 z
  refine ⟨okB, os, bare, Un.kept kp, ⟨m0, ?_, fun i y av e1 e2 e3 => ?_⟩, fun y c e => ?_, ?_, fun y c e => ?_, fun p hp => ?_, I.hok.kept kp, by rw [wipe_length]; exact I.len⟩
  · show Heap.Ns _ cenv.locals _
    rw [hL]
    exact ns
  · obtain ⟨e2, hne⟩ := wipe_some e2
    have hfr : scope.names.lookup y = some .free := by
      have e3 : Vis cenv.scope y := e3
      rw [hsc] at e3
      have no : ∀ k, scope.names.lookup y = some k → ¬ (k = .local ∨ k = .cell) := fun k e hh => by
        rcases ok.own _ (PySem.mem_of_lookup e) hh with e' | e'
        · obtain ⟨p, hp, hpy⟩ := List.mem_map.mp e'
          have e3 := ok.ix p hp
          have : p.1 = y := hpy
          rw [this] at e3
          exact hne (List.mem_map.mpr ⟨p, hp, nodup_ix hN e3 e1⟩)
        · exact e' (List.mem_of_getElem? e1)
      rcases e3 with e3 | e3 | e3
      · exact absurd (.inl rfl) (no _ e3)
      · exact absurd (.inr rfl) (no _ e3)
      · exact e3
    obtain ⟨m, hn, hl⟩ := I.loc
    have hvis : Vis X.env.scope y := (ok.free _ (PySem.mem_of_lookup hfr) rfl).elim (fun k => .inr (.inl k)) (fun k => .inr (.inr k))
    obtain ⟨w, r, q⟩ := hl i y av e1 e2 hvis
    refine ⟨w, r, .inr ⟨.inr (by show cenv.scope.names.lookup y = _; rw [hsc]; exact hfr), ?_⟩⟩
    obtain ⟨c, h1, h2⟩ := look hfr
    rcases q with ⟨k, _⟩ | ⟨_, c', e', z⟩
    · have k : X.env.scope.names.lookup y = some .local := k
      rcases ok.free _ (PySem.mem_of_lookup hfr) rfl with k' | k' <;> rw [show X.env.scope.names.lookup y = _ from k'] at k <;> cases k
    · rw [h2] at e'; cases e'
      exact ⟨c, h1, z.keeps kp⟩
  · obtain ⟨h1, _⟩ := mem (show cenv.cells.lookup y = some c from e)
    obtain ⟨w, z⟩ := I.cell y c h1
    exact ⟨w, z.keeps kp⟩
  · show H cenv.locals = none
    rw [hL]; exact I.hok.fresh (Nat.le_refl _)
  · exact I.freeC y c (mem (show cenv.cells.lookup y = some c from e)).1
  · exact absurd (show p ∈ ([] : List (Addr × Obj)) ++ [] from hp) (by simp)
/-- only the table of generators is another -/
theorem inv_gens {g' : Array GenState} (I : Inv X pins σ H s) (h : AllBare g') : Inv X pins σ H { s with gens := g' } :=
  ⟨I.ok, I.os, h, I.base, I.loc, I.cell, I.free, I.freeC, I.pin, I.hok, I.len⟩
end

/-! ### the turns of the generator -/
/-- between two turns: ps, what its consumer holds -/
structure GSp (Y : Cx) (σ : St) (tn : Nat → Heap → Prop) (fp : List Addr) (ps : List (Addr × Obj)) (i : Nat) (H : Hp) (s : Shared) : Prop where
  inv : Inv Y ps σ H s
  at_ : tn i s.heap
  free : ∀ b ∈ fp, H b = none
def Held (ps : List (Addr × Obj)) (s : Shared) : Prop := ∀ p ∈ ps, s.heap.get? p.1 = some p.2
/-- what is handed out; what must follow -/
def GYp {α : Type} (Y : Cx) (σ : St) (tn : Nat → Heap → Prop) (fp : List Addr) (Pn : α → List (Addr × Obj) → Prop) (Cn : α → V → Hp → (α → Hp → Prop) → Prop) : Protocol := fun n s₀ v s kap =>
  ∃ acc i y H Nx ps, RelV y v ∧ Pn acc ps ∧ Held ps s₀ ∧ GSp Y σ tn fp ps (i + 1) H s ∧ Cn acc y H Nx ∧ ∀ acc' ps' s'', Nx acc' H → Pn acc' ps' → GSp Y σ tn fp ps' (i + 1) H s'' → kap (.send .none) s''
/-- its end -/
def GFin {α : Type} (Y : Cx) (σ : St) (Pn : α → List (Addr × Obj) → Prop) (Fin : α → Hp → Prop) : Nat → Shared → Shared → Prop := fun n s₀ s =>
  ∃ acc ps H, Pn acc ps ∧ Held ps s₀ ∧ Inv Y ps σ H s ∧ Fin acc H
abbrev GEnd {α : Type} (Y : Cx) (σ : St) (Pn : α → List (Addr × Obj) → Prop) (Fin : α → Hp → Prop) : GenEnd := fun n s₀ r s₁ => r = .ok .next ∧ GFin Y σ Pn Fin n s₀ s₁
/-- a turn by its readings -/
def GTurn {α : Type} (J : It) (g : TG) (tt : TT) (te : TE) (vs : List Nat) (σ0 : St) (W : Nat → α → Nat → Hp → Prop) (Cn : α → V → Hp → (α → Hp → Prop) → Prop) (Fin : α → Hp → Prop) : Prop :=
  ∀ i acc m H, W i acc m H → (J.stop i H ∧ Fin acc H) ∨ (J.go i H ∧ 0 < m ∧ ∃ Nx : α → Hp → Prop, (∀ acc' H', Nx acc' H' → ∃ m', m' < m ∧ W (i + 1) acc' m' H') ∧
    ∀ x H', J.yld i H x H' → g x (wipe σ0 vs) H' fun σ2 H2 => wipe σ2 vs = wipe σ0 vs ∧ tt σ2 H2 fun b H3 => if b = true then te σ2 H3 fun y H4 => Cn acc y H4 Nx else Nx acc H3)
section
variable {Y : Cx} {α : Type} {σ0 : St} {vs : List Nat} {tn : Nat → Heap → Prop} {fp : List Addr} {Pn : α → List (Addr × Obj) → Prop} {Cn : α → V → Hp → (α → Hp → Prop) → Prop} {Fin : α → Hp → Prop} {W : Nat → α → Nat → Hp → Prop}
variable {J : It} {g : TG} {tt : TT} {te : TE} {elt tg iter : Expr} {ifs : List Expr} {scope : Scope} {pos : Pos} {it : Addr} {A1 : Around}
theorem gen_loop (hA : Y.A = A1.over (.compLoop (.GeneratorExp elt [⟨tg, iter, ifs, 0⟩] scope pos) 0 (.ref it) .none Y.env) []) (hc : Y.calm = true) (hco : Y.env.scope.isCoroutine = false) (hex : Y.ex = fp) (hpn0 : Y.pn = []) (hxe : Y.xe = fun _ _ => False)
    (T : Turn Y.prog Y.w Y.K tg J fp it tn) (pg : PG Y tg g) (pt : PTs Y ifs tt) (pe : PE Y elt te) (hpn : ∀ acc ps, Pn acc ps → ∀ p ∈ ps, ∀ b ∈ fp, p.1 ≠ b) (turn : GTurn J g tt te vs σ0 W Cn Fin) :
    ∀ (m n i : Nat) (acc : α) (ps : List (Addr × Obj)) (s₀ s : Shared) (H : Hp), m ≤ n → W i acc m H → Pn acc ps → Held ps s₀ → GSp Y (wipe σ0 vs) tn fp ps i H s →
      Seg (model Y.prog Y.w) A1 (GEnd Y (wipe σ0 vs) Pn Fin) (GYp Y (wipe σ0 vs) tn fp Pn Cn) n s₀
        (.compLoop (.GeneratorExp elt [⟨tg, iter, ifs, 0⟩] scope pos) 0 (.ref it) .none Y.env)
        ((model Y.prog Y.w).den (.compLoop (.GeneratorExp elt [⟨tg, iter, ifs, 0⟩] scope pos) 0 (.ref it) .none Y.env)) [] s := by
  have stat : ∀ {ps : List (Addr × Obj)} {acc : α} {σ' : St} {H' : Hp} {s' : Shared}, Pn acc ps → Inv Y ps σ' H' s' → (∀ b ∈ fp, H' b = none) → ∀ b ∈ fp, FpOk Y ps H' b := fun {ps acc σ' H' s'} hp I' hn b hb =>
    ⟨hn b hb, (I'.ok.exf b (by rw [hex]; exact hb)).1, I'.ok.exfs b (by rw [hex]; exact hb), .inl (by rw [hex]; exact hb), fun x c e => (I'.ok.exf b (by rw [hex]; exact hb)).2 x c e, fun p hq => by
      rw [hpn0, List.nil_append] at hq
      exact hpn acc ps hp p hq b hb⟩
  have over : ∀ {fs : List Frame}, fs = [] → A1.over (.compLoop (.GeneratorExp elt [⟨tg, iter, ifs, 0⟩] scope pos) 0 (.ref it) .none Y.env) fs = Y.A := fun e => by rw [e, hA]
  intro m
  induction m using Nat.strongRecOn with
  | ind m ih =>
  intro n i acc ps s₀ s H hmn w hp held hs
  obtain ⟨I5, st5, n5⟩ := hs
  show Seg _ A1 _ _ _ s₀ _ ((compTurn (.GeneratorExp elt [⟨tg, iter, ifs, 0⟩] scope pos) 0 (.ref it) .none Y.env).onRaise (leaving Y.env)) [] s
  rw [compTurn_gen, Sem.onRaise_eq_wrap]
  refine seg_bind_wrap (wpAny_standAt ?_)
  refine seg_bind_wrap ?_
  rw [over rfl]
  rcases turn i acc m H w with ⟨stop, qq⟩ | ⟨go, hm0, Nx, hNx, step⟩
  · have td := T.done Y rfl rfl rfl hc i ps s _ H (fun _ _ => False) I5 (stat hp I5 n5) st5 stop
    refine thnF td fun r s6 ⟨hr, I6⟩ => ?_
    subst hr
    exact seg_end (.ok .next) ⟨rfl, acc, ps, H, hp, held, I6, qq⟩
  · have ti := T.item Y rfl rfl rfl hc i ps s _ H (fun _ _ => False) I5 (stat hp I5 n5) st5 go
    refine thnF ti fun r s6 ⟨u, hr, h6⟩ => ?_
    subst hr
    refine seg_bind_wrap ?_
    rw [over rfl]
    refine thnF h6 fun _ s7 ⟨x, H7, I7, r7, y7, st7, n7⟩ => ?_
    have I7' := I7.pinned (stat hp I7 n7) (T.obj _ _ st7)
    refine seg_bind_wrap ?_
    rw [over rfl]
    have pgr := pg.run _ s7 _ H7 x u _ I7' r7 (step x H7 y7)
    rw [hxe] at pgr
    refine thnF pgr fun _ s8 ⟨σ8, H8, I8, hw8, q8⟩ => ?_
    refine seg_bind_wrap ?_
    rw [over rfl]
    have ptr := pt.run _ s8 σ8 H8 _ I8 q8
    rw [hxe] at ptr
    refine thnF ptr fun b s9 ⟨H9, I9, q9⟩ => ?_
    -- the turn's end
    have fin : ∀ {s' : Shared} {H' : Hp}, Inv Y (ps ++ pinsAt fp s7.heap) σ8 H' s' → GSp Y (wipe σ0 vs) tn fp ps (i + 1) H' s' := fun {s' H'} I' => by
      have pin' : ∀ b ∈ fp, ∀ o, s7.heap.get? b = some o → s'.heap.get? b = some o ∧ H' b = none := fun b hb o e =>
        let z := I'.pin (b, o) (List.mem_append_right _ (List.mem_append_right _ (mem_pinsAt hb e)))
        ⟨z.1, z.2.1⟩
      have hl : (wipe σ0 vs).length = σ8.length := by rw [← hw8, wipe_length]
      refine ⟨(I'.unpinned (pins := ps)).weak hl (fun j v e => ?_), T.keep _ _ _ st7 fun b hb o e => (pin' b hb o e).1, fun b hb => ?_⟩
      · rw [← hw8] at e
        exact (wipe_some e).1
      · obtain ⟨o, e, _⟩ := T.obj _ _ st7 b hb
        exact (pin' b hb o e).2
    cases b with
    | false =>
      rw [if_neg Bool.false_ne_true] at q9
      obtain ⟨m', hm, w'⟩ := hNx acc H9 q9
      simp only [Bool.false_eq_true, if_false]
      exact seg_again rfl (ih m' hm n (i + 1) acc ps s₀ s9 H9 (by omega) w' hp held (fin I9))
    | true =>
      rw [if_pos rfl] at q9
      simp only [if_true]
      have hy : ∀ v, yieldOut Y.env v = yieldValue v := fun v => by simp only [yieldOut, hco, Bool.false_eq_true, if_false]
      simp only [hy]
      rw [Sem.bind_eq_wrap', Sem.bind_eq_wrap', Sem.wrap_wrap, Sem.wrap_wrap]
      refine seg_wrap ?_
      rw [over rfl]
      have per := pe.run _ s9 σ8 H9 _ I9 q9
      rw [hxe] at per
      refine thnF per fun v s10 ⟨y, H10, I10, r10, q10⟩ => ?_
      obtain ⟨n', rfl⟩ : ∃ n', n = n' + 1 := ⟨n - 1, by omega⟩
      refine seg_at (seg_yield rfl rfl rfl ⟨acc, i, y, H10, Nx, ps, r10, hp, held, fin I10, q10, fun acc' ps' s'' nx hp' hs' => ?_⟩)
      obtain ⟨m', hm, w'⟩ := hNx acc' H10 nx
      exact seg_again rfl (ih m' hm n' (i + 1) acc' ps' s'' s'' H10 (by omega) w' hp' (fun p hq => (hs'.inv.pin p (List.mem_append_right _ hq)).1) hs')
theorem gen_begin (hA : Y.A = A1.over (.compLoop (.GeneratorExp elt [⟨tg, iter, ifs, 0⟩] scope pos) 0 (.ref it) .none Y.env) []) (hc : Y.calm = true) (hco : Y.env.scope.isCoroutine = false) (hex : Y.ex = fp) (hpn0 : Y.pn = []) (hxe : Y.xe = fun _ _ => False)
    (T : Turn Y.prog Y.w Y.K tg J fp it tn) (pg : PG Y tg g) (pt : PTs Y ifs tt) (pe : PE Y elt te) (hpn : ∀ acc ps, Pn acc ps → ∀ p ∈ ps, ∀ b ∈ fp, p.1 ≠ b) (turn : GTurn J g tt te vs σ0 W Cn Fin)
    (m n : Nat) (acc : α) (ps : List (Addr × Obj)) (s₀ s : Shared) (H : Hp) (hmn : m ≤ n) (w : W 0 acc m H) (hp : Pn acc ps) (held : Held ps s₀) (hs : GSp Y (wipe σ0 vs) tn fp ps 0 H s) :
      Seg (model Y.prog Y.w) A1 (GEnd Y (wipe σ0 vs) Pn Fin) (GYp Y (wipe σ0 vs) tn fp Pn Cn) n s₀
        (.compStart (.GeneratorExp elt [⟨tg, iter, ifs, 0⟩] scope pos) 0 (.ref it) .none Y.env)
        ((model Y.prog Y.w).den (.compStart (.GeneratorExp elt [⟨tg, iter, ifs, 0⟩] scope pos) 0 (.ref it) .none Y.env)) [] s := by
  have loop := gen_loop hA hc hco hex hpn0 hxe T pg pt pe hpn turn m n 0 acc ps s₀ s H hmn w hp held hs
  show Seg _ A1 _ _ _ s₀ _ ((compStart (.GeneratorExp elt [⟨tg, iter, ifs, 0⟩] scope pos) 0 (.ref it) .none Y.env).onRaise (leaving Y.env)) [] s
  unfold compStart
  rw [Sem.onRaise_eq_wrap]
  show Seg _ A1 _ _ _ s₀ _ ((ask >>= _).wrap _ _ _ _) [] s
  refine seg_bind_wrap (wpAny_askSetting ?_)
  split
  · exact seg_again rfl loop
  · first
      | exact seg_bind_wrap (wpAny_rule (seg_bind_wrap (wpAny_standAt (seg_bind_wrap (T.self _ 0 s _ _ hs.at_ (seg_again rfl loop))))))
      | (refine seg_bind_wrap (wpAny_rule ?_); show Seg _ A1 _ _ _ s₀ _ ((standAt iter.pos >>= _).wrap _ _ _ _) [] s; exact seg_bind_wrap (wpAny_standAt (seg_bind_wrap (T.self _ 0 s _ _ hs.at_ (seg_again rfl loop)))))
end

/-! ### sum -/
abbrev sumObj (acc : Int) (t : Tok) (c : Nat) : Obj := { cls := .type "list", dict := none, data := .seq #[.int acc t] c, slots := #[] }
def PnS (a S : Addr) (go : Obj) (acc : Int) (ps : List (Addr × Obj)) : Prop := ∃ t c, ps = [(a, go), (S, sumObj acc t c)]
def CnS (acc : Int) (y : V) (H : Hp) (Nx : Int → Hp → Prop) : Prop := ∃ k, y = .int k ∧ Nx (acc + k) H
section
variable {Y : Cx} {σ1 : St} {tn : Nat → Heap → Prop} {fp : List Addr} {Fin : Int → Hp → Prop} {a S : Addr} {go : Obj} {g : Nat}
/-- the consumer's list is another; the table of generators too -/
theorem GSp.repin {acc acc' : Int} {t t' : Tok} {c c' : Nat} {i : Nat} {H : Hp} {s : Shared} {h' : Heap} {g' : Array GenState} {tk : Nat} (hpn0 : Y.pn = []) (hSa : S ≠ a) (hS0 : Y.s_0.heap.objs.size ≤ S) (hSC : ∀ x c, Y.env.cells.lookup x = some c → c ≠ S) (hSf : S ∉ fp)
    (keep : ∀ {h h' : Heap}, tn i h → (∀ b ∈ fp, ∀ o, h.get? b = some o → h'.get? b = some o) → tn i h')
    (x : GSp Y σ1 tn fp [(a, go), (S, sumObj acc t c)] i H s) (hb : AllBare g') (k : ∀ b o, b ≠ S → s.heap.get? b = some o → h'.get? b = some o) (e : h'.get? S = some (sumObj acc' t' c')) :
    GSp Y σ1 tn fp [(a, go), (S, sumObj acc' t' c')] i H { s with heap := h', gens := g', toks := tk } := by
  obtain ⟨I, st, n⟩ := x
  obtain ⟨_, h2, h3, h4, _⟩ := I.pin (S, sumObj acc t c) (List.mem_append_right _ (by simp))
  obtain ⟨p1, p2, p3, p4, p5⟩ := I.pin (a, go) (List.mem_append_right _ (by simp))
  have I0 : Inv Y [] σ1 H s := I.pins_of fun p hp => absurd hp (by simp)
  have I1 : Inv Y [] σ1 H { s with heap := h', toks := tk } := I0.turnedL (ch := [S]) (fun b o hb e => k b o (fun z => hb (by rw [z]; simp)) e) fun b hb => by
    obtain rfl : b = S := by simpa using hb
    exact ⟨h2, h3, h4, .inr hS0, hSC, fun p hp => by rw [hpn0] at hp; simp at hp⟩
  refine ⟨((inv_gens I1 hb).pins_of fun p hp => ?_), keep st fun b hb o e => k b o (fun z => hSf (z ▸ hb)) e, n⟩
  rcases List.mem_cons.mp hp with rfl | hp
  · exact ⟨k _ _ (Ne.symm hSa) p1, p2, p3, p4, p5⟩
  · obtain rfl : p = (S, sumObj acc' t' c') := by simpa using hp
    exact ⟨e, h2, h3, h4, fun v q => by cases q⟩
theorem sum_loop {A : Around} {Rr : Result → Shared → Prop} (hh : A.handled = none) (hroom : A.depth < recursionLimit) (hgen : ∀ h : Heap, h.get? a = some go → h.IsGen a g) (hpn0 : Y.pn = []) (hSa : S ≠ a) (hS0 : Y.s_0.heap.objs.size ≤ S)
    (hSC : ∀ x c, Y.env.cells.lookup x = some c → c ≠ S) (hSf : S ∉ fp) (keep : ∀ {i : Nat} {h h' : Heap}, tn i h → (∀ b ∈ fp, ∀ o, h.get? b = some o → h'.get? b = some o) → tn i h')
    (hR : ∀ s' acc ps H t', PnS a S go acc ps → Inv Y ps σ1 H s' → Fin acc H → Rr (.ok (.ret (.int acc t'))) s') :
    ∀ (n i : Nat) (acc : Int) (ps : List (Addr × Obj)) (s : Shared) (H : Hp) (gs : GenState) (st : Int), (st = 0 ∨ st = 2) → PnS a S go acc ps → GSp Y σ1 tn fp ps i H s → s.gens[g]? = some gs →
      (∀ s'', GSp Y σ1 tn fp ps i H s'' → gs.Goes (model Y.prog Y.w) A.in1.in1 (GEnd Y σ1 (PnS a S go) Fin) (GYp Y σ1 tn fp (PnS a S go) CnS) n (.send .none) s'') →
      codeAny (model Y.prog Y.w) A (.builtin "sum.loop" ⟨[.ref a, .ref S, rawInt st, rawInt 0], []⟩) Rr s := by
  intro n
  induction n using Nat.strongRecOn with
  | ind n ih =>
  intro i acc ps s H gs st hst hp hs hgs hgo
  obtain ⟨t, c, rfl⟩ := hp
  have gs0 := hs
  obtain ⟨I, st0, n0⟩ := hs
  have hS := (I.pin (S, sumObj acc t c) (List.mem_append_right _ (by simp))).1
  have ha := (I.pin (a, go) (List.mem_append_right _ (by simp))).1
  have hgl : g < s.gens.size := (Array.getElem?_eq_some_iff.mp hgs).1
  have bare1 : ∀ {x : GenState}, x.bare = true → AllBare (s.setGen g x).gens := fun hx => allBare_setGen I.bare hx
  refine codeAny_builtin F.entry_sum_loop ?_
  rw [Around.under_plainId F.plain_sum_loop _]
  show wpAny _ A.in1 (seqItems? (.ref S) >>= _) _ _ s
  refine wpAny_bind (wpAny_seqItems hS rfl ?_)
  show wpAny _ A.in1 (tryCatch (pyNext (.ref a)) _ >>= _) _ _ s
  refine wpAny_bind (wpAny_tryCatch (wpAny_gsz (n := g + 1) hgl (wpAny_pyNext_genexpQ (A := A.in1) (P := GFin Y σ1 (PnS a S go) Fin) (Y := GYp Y σ1 tn fp (PnS a S go) CnS) (n := n) hh I.nolimit hroom (hgen _ ha) hgs
    (hgo _ ⟨inv_gens I (bare1 rfl), st0, n0⟩) (fun v s1 gs' hbare hv => ?_) (fun s1 hf h' hk => ?_))))
  · intro hsz
    obtain ⟨acc1, i1, y, H1, Nx, ps1, rv, ⟨t1, c1, rfl⟩, held, gs1, ⟨k, rfl, nx⟩, kap⟩ := hv
    obtain ⟨tv, rfl⟩ : ∃ tv, v = Value.int k tv := rv
    have e1 : some (sumObj acc t c) = some (sumObj acc1 t1 c1) := hS.symm.trans (held (S, sumObj acc1 t1 c1) (by simp))
    obtain ⟨rfl, rfl, rfl⟩ : acc = acc1 ∧ t = t1 ∧ c = c1 := by
      simp only [Option.some.injEq, Obj.mk.injEq, Data.seq.injEq, Array.mk.injEq, List.cons.injEq, Value.int.injEq, and_true, true_and] at e1
      exact ⟨e1.1.1, e1.1.2, e1.2⟩
    have hS1 := (gs1.inv.pin (S, sumObj acc t c) (List.mem_append_right _ (by simp))).1
    have hsz1 : g < s1.gens.size := by
      have q : (s1.setGen g gs').gens.size = s1.gens.size := setGen_size _ _ _
      have hsz' : g + 1 ≤ (s1.setGen g gs').gens.size := hsz
      omega
    have hgs1 : (s1.setGen g gs').gens[g]? = some gs' := setGen_at hsz1
    have bare2 : AllBare (s1.setGen g gs').gens := allBare_setGen gs1.inv.bare hbare
    -- the next turn, from the state with the new sum
    have nextT : ∀ (h' : Heap) (tk : Nat) (t' : Tok) (c' : Nat) (st' : Int), (st' = 0 ∨ st' = 2) → (∀ b o, b ≠ S → s1.heap.get? b = some o → h'.get? b = some o) → h'.get? S = some (sumObj (acc + k) t' c') →
        codeAny (model Y.prog Y.w) A (.builtin "sum.loop" ⟨[.ref a, .ref S, rawInt st', rawInt 0], []⟩) Rr { s1.setGen g gs' with heap := h', toks := tk } := by
      intro h' tk t' c' st' hst' hk he
      have gs2 : GSp Y σ1 tn fp [(a, go), (S, sumObj (acc + k) t' c')] (i1 + 1) H1 { s1.setGen g gs' with heap := h', toks := tk } :=
        GSp.repin (s := s1) (g' := (s1.setGen g gs').gens) (tk := tk) hpn0 hSa hS0 hSC hSf keep gs1 bare2 hk he
      cases n with
      | zero => exact False.elim (kap (acc + k) _ _ nx ⟨t', c', rfl⟩ gs2)
      | succ m => exact ih m (Nat.lt_succ_self m) (i1 + 1) (acc + k) _ _ H1 gs' st' hst' ⟨t', c', rfl⟩ gs2 hgs1 fun s'' hs'' => kap (acc + k) _ s'' nx ⟨t', c', rfl⟩ hs''
    have upo : ∀ (h : Heap) (f : Obj → Obj), (∀ b o, b ≠ S → s1.heap.get? b = some o → h.get? b = some o) → ∀ b o, b ≠ S → s1.heap.get? b = some o → (h.update S f).get? b = some o := fun h f q b o hb e =>
      (Heap.get?_update_other _ _ (Ne.symm hb)).trans (q b o hb e)
    have hS' : (s1.setGen g gs').heap.get? S = some (sumObj acc t c) := hS1
    rcases hst with rfl | rfl
    · show wpAny _ A.in1 (if (_ : Bool) = true then (mkInt (acc + k) >>= _) else _) _ _ _
      split
      · refine wpAny_bind (wpAny_mkInt ?_)
        show wpAny _ A.in1 (updateSeq S (fun _ => #[.int (acc + k) s1.toks]) >>= _) _ _ _
        refine wpAny_bind ?_
        refine wpAny_updateSeq hS' rfl (wpAny_pure ⟨plainId_quiet F.plain_sum_loop _, ?_⟩)
        exact nextT _ _ _ _ 0 (.inl rfl) (upo _ _ fun _ _ _ e => e) (Heap.get?_update_self _ hS' rfl)
      · refine wpAny_bind (wpAny_rule ?_)
        refine wpAny_bind (wpAny_attempt (wpAny_holding (wpAny_add_int ?_)))
        show wpAny _ A.in1 (updateSeq S (fun _ => #[.int (acc + k) s1.toks]) >>= _) _ _ _
        refine wpAny_bind (wpAny_updateSeq hS' rfl ?_)
        have hS₂ := Heap.get?_update_self (Obj.mapSeq fun _ => #[Value.int (acc + k) s1.toks]) hS' rfl
        refine wpAny_bind (wpAny_letGo ?_)
        refine wpAny_bind (wpAny_updateSeq hS₂ rfl (wpAny_pure ⟨plainId_quiet F.plain_sum_loop _, ?_⟩))
        exact nextT _ _ _ _ 2 (.inr rfl) (upo _ _ (upo _ _ fun _ _ _ e => e)) (Heap.get?_update_self _ hS₂ rfl)
    · show wpAny _ A.in1 ((holding [Value.int k tv] (binaryOp .Add (.int acc t) (.int k tv))).attempt >>= _) _ _ _
      refine wpAny_bind (wpAny_attempt (wpAny_holding (wpAny_add_int ?_)))
      show wpAny _ A.in1 (updateSeq S (fun _ => #[.int (acc + k) s1.toks]) >>= _) _ _ _
      refine wpAny_bind (wpAny_updateSeq hS' rfl ?_)
      have hS₂ := Heap.get?_update_self (Obj.mapSeq fun _ => #[Value.int (acc + k) s1.toks]) hS' rfl
      refine wpAny_bind (wpAny_letGo ?_)
      refine wpAny_bind (wpAny_updateSeq hS₂ rfl (wpAny_pure ⟨plainId_quiet F.plain_sum_loop _, ?_⟩))
      exact nextT _ _ _ _ 2 (.inr rfl) (upo _ _ (upo _ _ fun _ _ _ e => e)) (Heap.get?_update_self _ hS₂ rfl)
  · intro _
    obtain ⟨acc1, ps1, H1, ⟨t1, c1, rfl⟩, held, I1, hfin⟩ := hf
    have e1 : some (sumObj acc t c) = some (sumObj acc1 t1 c1) := hS.symm.trans (held (S, sumObj acc1 t1 c1) (by simp))
    obtain ⟨rfl, rfl, rfl⟩ : acc = acc1 ∧ t = t1 ∧ c = c1 := by
      simp only [Option.some.injEq, Obj.mk.injEq, Data.seq.injEq, Array.mk.injEq, List.cons.injEq, Value.int.injEq, and_true, true_and] at e1
      exact ⟨e1.1.1, e1.1.2, e1.2⟩
    refine wpAny_pure (hR _ acc _ H1 t ⟨t, c, rfl⟩ ?_ hfin)
    exact inv_gens (I1.kept (t' := s1.toks) hk) (allBare_setGen I1.bare rfl)
end
end L2.P3
/-! P3gb: sum of a generator expression: the call. -/
namespace L2.P3
open PySem PySem.Spec PyProof.Rows GenW L2
theorem gen_frames {A : Around} {e : Expr} {es : List Comprehension} {scope : Scope} {pos : Pos} {it acc : Value} {env : Env} {l : List Env} (h : A.frames = some l) : (A.over (.compLoop (.GeneratorExp e es scope pos) 0 it acc env) []).frames = some (env :: l) := by
  show pushEnvs [env] (pushEnvs [] A.frames) = _
  rw [h]
  rfl
theorem gen_room {A : Around} {e : Expr} {es : List Comprehension} {scope : Scope} {pos : Pos} {it acc : Value} {env : Env} {k : Nat} (r : Room (k + 1) A) : Room k (A.in1.in1.over (.compLoop (.GeneratorExp e es scope pos) 0 it acc env) []) := by
  have hd : (A.in1.in1.over (.compLoop (.GeneratorExp e es scope pos) 0 it acc env) []).depth = A.depth + 1 := by
    show A.depth + 0 + 1 = _
    omega
  have hu : (A.in1.in1.over (.compLoop (.GeneratorExp e es scope pos) 0 it acc env) []).units = A.units + 5 := by
    show A.units + 1 + 1 + 0 + 3 = _
    omega
  refine ⟨r.hd, ?_, ?_⟩
  · rw [hd]; have := r.dp; omega
  · rw [hu]; have := r.un; omega
def tSumG (P : Addr) (wi : TI) (g : TG) (tt : TT) (te : TE) (vs : List Nat) : TE := fun σ H Q => wi σ H fun J H1 => GxR.TabG H1 P ∧ ∀ H2, GxR.Tabbed P H1 H2 →
  ∃ W : Nat → Int → Nat → Hp → Prop, (∃ m, W 0 0 m H2) ∧ GTurn J g tt te vs σ W CnS fun acc H => Q (.int acc) H
section
variable {X : Cx} {c P : Addr} {elt tg iter : Expr} {ifs : List Expr} {scope : Scope} {own : List (Str × Nat)} {p pos gpos : Pos} {wi : TI} {g : TG} {tt : TT} {te : TE} {k : Nat}
theorem pe_sumG (hr : Room (k + 1) X.A) (hc : X.calm = true) (hN : X.N.Nodup) (hgl : Gl X "sum") (hm : X.mg "sum" = none) (TB : GxR.TabB X.base X.mg c P) (hcode : X.env.code = .ref c) (hco : scope.isCoroutine = false) (hcell : ∀ y ∈ scope.names, y.2 ≠ .cell)
    (hdot : scope.names.lookup (".0" : Str) = some NameKind.local) (ok : BlkOk X.N X.env.scope scope own) (hi : PI X tg iter wi)
    (hg : ∀ (s : Shared) (H : Hp) (cl : List (Str × Addr)) (C : Addr) (code : Value) (bi : Addr) (fp : List Addr) (A' : Around), Room k A' → PG (gblk X s H scope (genEnv scope cl C code bi X.env) fp A') tg g)
    (ht : ∀ (s : Shared) (H : Hp) (cl : List (Str × Addr)) (C : Addr) (code : Value) (bi : Addr) (fp : List Addr) (A' : Around), Room k A' → PTs (gblk X s H scope (genEnv scope cl C code bi X.env) fp A') ifs tt)
    (hel : ∀ (s : Shared) (H : Hp) (cl : List (Str × Addr)) (C : Addr) (code : Value) (bi : Addr) (fp : List Addr) (A' : Around), Room k A' → PE (gblk X s H scope (genEnv scope cl C code bi X.env) fp A') elt te)
    (hs : ∀ v, genFold iter X.env v = pure v)
    (he : starEach [.GeneratorExp elt [⟨tg, iter, ifs, 0⟩] scope gpos] X.env = (false, eval (.GeneratorExp elt [⟨tg, iter, ifs, 0⟩] scope gpos) X.env) :: starEach [] X.env := by rfl) :
    PE X (.Call (.Name "sum" p) [.GeneratorExp elt [⟨tg, iter, ifs, 0⟩] scope gpos] [] pos) (tSumG P wi g tt te (own.map (·.2))) := by
  refine ⟨fun pins s σ H Q I h => ?_⟩
  have hfree : ∀ y ∈ scope.names, y.2 = .free → ∃ c, X.env.cells.lookup y.1 = some c := fun y hy e => by
    rcases ok.free y hy e with k | k
    · exact I.ok.has _ (.inl k)
    · exact I.ok.has _ (.inr k)
  refine wpAny_Call_Name_kw (ld_blt I hgl hm boot_sum ?_)
  refine PyProof.Rows.callWith_builtin1 ?_ he (by rfl)
  rw [he]
  show wpAny _ _ (spliced ((false, eval (.GeneratorExp elt [⟨tg, iter, ifs, 0⟩] scope gpos) X.env) :: backTo pos (starEach [] X.env))) _ _ s
  refine Calls.spliced_cons ?_
  refine wpAny_GeneratorExp_make hco (closure_ok hfree) hcell hdot ok.kind (by have := hr.dp; omega) (thn (hi.run pins s σ H _ I h) fun xv s1 hx => thn hx fun itv s2 h2 => ?_) hs
  obtain ⟨it, fp, tn, J, H2, rfl, I2, T, st2, f2, ⟨ps, hP, htr⟩, q⟩ := h2
  refine ⟨I2.nolimit, ?_⟩
  have hPs : s2.heap.get? P = some { cls := .none, data := .fields ps } := I2.hok P _ hP
  have cd : PySem.W.CodeHd s2.heap c P := TB.code.keeps fun b u e => I2.bk b u e
  have cont : ∀ (code : Value) (h3 : Heap) (tk : Nat) (ps' : Array Value), Heap.ExtBut P s2.heap h3 → s2.heap.objs.size ≤ h3.objs.size → h3.get? P = some { cls := .none, data := .fields ps' } → (∃ more, ps' = ps ++ more) → TriplesOk ps'.toList →
      wpAny (model X.prog X.w) X.A (builtinsFor X.env.globals X.env.builtins) (fun bi s₄ => ∀ h', h'.Ns s₄.heap.objs.size (fun y => if y = ".0" then some (.ref it) else none) → Heap.SameBut s₄.heap.objs.size (s₄.heap.push { cls := .type "frame", data := .dict #[] }) h' →
          wpAny (model X.prog X.w) X.A (spliced (backTo pos (starEach [] X.env))) (fun vs s' => wpAny (model X.prog X.w) X.A (call (.builtin "sum") (.ref h'.objs.size :: vs)) (EP X pins σ Q) X.xe s') X.xe { s₄ with
            gens := s₄.gens.push (.fresh (.compStart (.GeneratorExp elt [⟨tg, iter, ifs, 0⟩] scope gpos) 0 (.ref it) .none (genEnv scope (cloFrom X.env.cells scope.names []) s₄.heap.objs.size code bi X.env))),
            toks := s₄.toks + 1 + 1 + 1,
            heap := h'.push { cls := .type "generator", data := .fields #[.int s₄.gens.size 0, .str "<genexpr>" (s₄.toks + 1), .str (X.env.qual ++ "<genexpr>") (s₄.toks + 1 + 1)] } }) X.xe { s2 with heap := h3, toks := tk } := by
    intro code h3 tk ps' hx hsz hP3 hmore ht3
    obtain ⟨bm, ob, e1, e2, e3, e4, e5, e6, e7, e8⟩ := TB.bm
    obtain ⟨more, rfl⟩ := hmore
    have keep3 : ∀ b u, b ≠ P → s2.heap.get? b = some u → h3.get? b = some u := fun b u hb e => hx b u hb e
    refine wpAny_builtinsFor (m := X.mg) (by rw [I2.ok.glob]; exact (I2.mod.glob.keeps I2.bk).extBut hx TB.gP) e1 e2 (keep3 _ _ e4 (I2.bk _ _ e5)) e6 e7 e8 ?_
    intro h' hn' hs'
    -- the state at the frame's making
    generalize hs4 : ({ s2 with heap := h3, toks := tk } : Shared) = s4 at hn' hs' ⊢
    generalize hH4 : upd H2 P (.tbl (ps ++ more)) = H4
    have I4 : Inv X pins σ H4 s4 := by
      rw [← hs4, ← hH4]
      exact GxR.inv_tab (g' := s2.gens) (d' := s2.drawn) I2 hP keep3 hP3 I2.bare
    have h4 : s4.heap = h3 := by rw [← hs4]
    have g4 : s4.gens = s2.gens := by rw [← hs4]
    obtain ⟨W, ⟨m0, w0⟩, turn⟩ := q H4 ⟨⟨ps ++ more, by rw [← hH4, upd_same], ht3⟩, fun b hb => by rw [← hH4, upd_ne hb]⟩
    have fpP : ∀ b ∈ fp, b ≠ P := fun b hb z => by
      have := (f2 b hb).1
      rw [z, hP] at this; cases this
    have fp2 : ∀ b ∈ fp, b < s2.heap.objs.size := fun b hb => by
      obtain ⟨o, e, _⟩ := T.obj _ _ st2 b hb
      exact Heap.lt_size e
    have f4 : ∀ b ∈ fp, FpOk X pins H4 b ∧ b < s4.heap.objs.size := fun b hb => by
      refine ⟨⟨?_, (f2 b hb).2⟩, ?_⟩
      · rw [← hH4, upd_ne (fpP b hb)]; exact (f2 b hb).1
      · rw [h4]; exact Nat.lt_of_lt_of_le (fp2 b hb) hsz
    have st4 : tn 0 s4.heap := T.keep _ _ _ st2 fun b hb o e => by rw [h4]; exact keep3 b o (fpP b hb) e
    -- the frame, the generator, the sum's list
    have hsz' : h'.objs.size = s4.heap.objs.size + 1 := by rw [hs'.1, Heap.size_push]
    have keep' : ∀ b o, s4.heap.get? b = some o → h'.get? b = some o := fun b o e => hs'.extBut b o (Nat.ne_of_lt (Heap.lt_size e)) (Heap.get?_push_of_some _ e)
    generalize hgo : ({ cls := .type "generator", data := .fields #[.int s4.gens.size 0, .str "<genexpr>" (s4.toks + 1), .str (X.env.qual ++ "<genexpr>") (s4.toks + 1 + 1)] } : Obj) = go
    have hgen : ∀ h : Heap, h.get? h'.objs.size = some go → h.IsGen h'.objs.size s4.gens.size := fun h e => by
      subst hgo
      exact ⟨_, _, _, e, rfl, rfl, rfl⟩
    have hgof : ∀ v, go.data ≠ .cell v := fun v z => by subst hgo; cases z
    have ga5 : (h'.push go).get? h'.objs.size = some go := Heap.get?_push_size _ (by subst hgo; rfl)
    generalize hcenv : genEnv scope (cloFrom X.env.cells scope.names []) s4.heap.objs.size code builtinsNs X.env = cenv
    have cL : cenv.locals = s4.heap.objs.size := by subst hcenv; rfl
    have cS : cenv.scope = scope := by subst hcenv; rfl
    generalize hcd : Code.compStart (.GeneratorExp elt [⟨tg, iter, ifs, 0⟩] scope gpos) 0 (.ref it) .none cenv = cd0
    have hA' : (X.A.in1.in1.over (.compLoop (.GeneratorExp elt [⟨tg, iter, ifs, 0⟩] scope gpos) 0 (.ref it) .none cenv) []).frames = some (cenv :: X.stack) := gen_frames (show X.A.in1.in1.frames = some X.stack from I4.ok.frames)
    have rA' := gen_room (e := elt) (es := [⟨tg, iter, ifs, 0⟩]) (scope := scope) (pos := gpos) (it := .ref it) (acc := .none) (env := cenv) hr
    generalize hAA : X.A.in1.in1.over (.compLoop (.GeneratorExp elt [⟨tg, iter, ifs, 0⟩] scope gpos) 0 (.ref it) .none cenv) [] = AA at hA' rA'
    refine Calls.spliced_nil ?_
    refine call_function_tree F.kind_sum F.plain_sum F.entry_sum (F.args_sum1 _) ?_
    unfold Builtin.«sum»
    simp only [List.length_cons, List.length_nil]
    rw [if_neg (by decide)]
    refine wpAny_bind (wpAny_of_eq (show Builtin.Builtins.bindParams "sum" ["start"] 0 { } = pure [none] from rfl) ?_)
    refine wpAny_bind (wpAny_pyIter_gen (s := { s4 with heap := h'.push go, gens := s4.gens.push (.fresh cd0), toks := s4.toks + 1 + 1 + 1 }) (hgen _ ga5) ?_)
    refine wpAny_bind (wpAny_mkInt ?_)
    refine wpAny_bind (wpAny_pure ?_)
    simp only [List.forIn_cons, List.forIn_nil]
    refine wpAny_bind (wpAny_bind (wpAny_bind (wpAny_isInstance (T := "int") (b := false) (typeIs_int _ _ _) PySem.sub_int_str ?_)))
    simp only [Bool.false_eq_true, if_false]
    refine wpAny_pure (wpAny_bind (wpAny_bind (wpAny_isInstance (T := "int") (b := false) (typeIs_int _ _ _) PySem.sub_int_bytes ?_)))
    simp only [Bool.false_eq_true, if_false]
    refine wpAny_pure (wpAny_bind (wpAny_bind (wpAny_isInstance (T := "int") (b := false) (typeIs_int _ _ _) PySem.sub_int_bytearray ?_)))
    simp only [Bool.false_eq_true, if_false]
    refine wpAny_pure (wpAny_pure ?_)
    refine wpAny_bind (wpAny_newObj_type ?_)
    refine wpAny_pure ⟨plainId_quiet F.plain_sum_loop _, ?_⟩
    generalize hS : (h'.push go).objs.size = S
    have hSz : S = h'.objs.size + 1 := by rw [← hS, Heap.size_push]
    show codeAny (model X.prog X.w) X.A (.builtin "sum.loop" ⟨[.ref h'.objs.size, .ref S, rawInt 0, rawInt 0], []⟩) _ ({ s4 with heap := (h'.push go).push { cls := .type "list", data := .seq #[Value.int 0 (s4.toks + 1 + 1 + 1)] }, gens := s4.gens.push (.fresh cd0), toks := s4.toks + 1 + 1 + 1 + 1 } : Shared)
    generalize hs6 : ({ s4 with heap := (h'.push go).push { cls := .type "list", data := .seq #[Value.int 0 (s4.toks + 1 + 1 + 1)] }, gens := s4.gens.push (.fresh cd0), toks := s4.toks + 1 + 1 + 1 + 1 } : Shared) = s6
    have h6 : s6.heap = (h'.push go).push { cls := .type "list", data := .seq #[Value.int 0 (s4.toks + 1 + 1 + 1)] } := by rw [← hs6]
    have g6 : s6.gens = s4.gens.push (.fresh cd0) := by rw [← hs6]
    have kp : ∀ b o, s4.heap.get? b = some o → s6.heap.get? b = some o := fun b o e => by rw [h6]; exact Heap.get?_push_of_some _ (Heap.get?_push_of_some _ (keep' b o e))
    have eS : s6.heap.get? S = some (sumObj 0 (s4.toks + 1 + 1 + 1) 0) := by rw [h6, ← hS]; exact Heap.get?_push_size _ rfl
    have ea : s6.heap.get? h'.objs.size = some go := by rw [h6]; exact Heap.get?_push_of_some _ ga5
    have bare6 : AllBare s6.gens := by rw [g6]; exact I4.bare.push rfl
    have I6 := gen_start (code := code) (A' := AA) (s5 := s6) (fp := fp) I4 ok hcell hN f4 (by rw [← hAA]; exact hr.hd) (by rw [hcenv]; exact hA') (by rw [← hs6]) bare6 kp (by rw [h6]; exact (hn'.push _).push _)
    rw [hcenv] at I6
    have lt4 : s4.heap.objs.size < h'.objs.size := by omega
    have lt4S : s4.heap.objs.size < S := by omega
    have nH : ∀ b, s4.heap.objs.size ≤ b → H4 b = none := fun b hb => I4.hok.fresh hb
    have nL : ∀ b, s4.heap.objs.size < b → b ≠ cenv.locals := fun b hb => by rw [cL]; exact Nat.ne_of_gt hb
    have nF : ∀ b, s4.heap.objs.size ≤ b → b ∉ frs X.stack := fun b hb z => by
      rcases List.mem_cons.mp (I4.stkSub b z) with z | z
      · have := I4.lt
        rw [← z] at this
        exact absurd (Nat.lt_of_lt_of_le this hb) (Nat.lt_irrefl _)
      · exact I4.nofs hb z
    have gs6 : GSp (gblk X s4 H4 scope cenv fp AA) (wipe σ (own.map (·.2))) tn fp [(h'.objs.size, go), (S, sumObj 0 (s4.toks + 1 + 1 + 1) 0)] 0 H4 s6 := by
      refine ⟨I6.pins_of fun p hp => ?_, T.keep _ _ _ st4 fun b _ o e => kp b o e, fun b hb => (f4 b hb).1.1⟩
      rcases List.mem_cons.mp hp with rfl | hp
      · exact ⟨ea, nH _ (by show _ ≤ h'.objs.size; omega), nL _ (by show _ < h'.objs.size; omega), nF _ (by show _ ≤ h'.objs.size; omega), hgof⟩
      · obtain rfl : p = (S, sumObj 0 (s4.toks + 1 + 1 + 1) 0) := by simpa using hp
        exact ⟨eS, nH _ (by show _ ≤ S; omega), nL _ (by show _ < S; omega), nF _ (by show _ ≤ S; omega), fun v z => by cases z⟩
    have hcl : cenv.cells = cloFrom X.env.cells scope.names [] := by subst hcenv; rfl
    have clt : ∀ x c, cenv.cells.lookup x = some c → c < s4.heap.objs.size := fun x c e => by
      rw [hcl] at e
      rcases cloFrom_mem (PySem.mem_of_lookup e) with hm | ⟨h1, rfl⟩
      · cases hm
      · obtain ⟨c, hc⟩ := hfree _ h1 rfl
        rw [hc]
        obtain ⟨w, z⟩ := I4.cell _ _ hc
        exact z.lt
    refine sum_loop (Y := gblk X s4 H4 scope cenv fp AA) (σ1 := wipe σ (own.map (·.2))) (tn := tn) (fp := fp) (Fin := fun acc H => Q (.int acc) H) (a := h'.objs.size) (S := S) (go := go) (g := s4.gens.size) hr.hd (by have := hr.dp; show X.A.depth < _; omega) hgen rfl
      (by rw [hSz]; exact Nat.succ_ne_self _) (by show s4.heap.objs.size ≤ S; omega) (fun x c e z => Nat.lt_irrefl _ (Nat.lt_trans lt4S (by have := clt x c e; rw [z] at this; exact this))) (fun z => Nat.lt_irrefl _ (Nat.lt_trans lt4S (f4 _ z).2)) (fun {i h h'} a b => T.keep i h h' a b) ?_ m0 0 0 _ s6 H4 (.fresh cd0) 0 (.inl rfl) ⟨_, _, rfl⟩ gs6 (by rw [g6]; exact Array.getElem?_push_size ..) ?_
    · rintro s' acc ps' H' t' - I' hq
      refine ⟨.int acc, H', I4.call' (ch := fp) (by rw [I'.os]) I'.base I'.hok I'.bare fun b hb => ⟨(f4 b hb).1.2.2.2.1, (f4 b hb).1.2.1, (f4 b hb).1.2.2.2.2.1, (f4 b hb).1.2.2.2.2.2⟩, ⟨t', rfl⟩, hq⟩
    · intro s'' hs''
      rw [← hcd]
      have e1 := hg s4 H4 (cloFrom X.env.cells scope.names []) s4.heap.objs.size code builtinsNs fp AA rA'
      have e2 := ht s4 H4 (cloFrom X.env.cells scope.names []) s4.heap.objs.size code builtinsNs fp AA rA'
      have e3 := hel s4 H4 (cloFrom X.env.cells scope.names []) s4.heap.objs.size code builtinsNs fp AA rA'
      rw [hcenv] at e1 e2 e3
      refine ⟨rfl, gen_begin (Y := gblk X s4 H4 scope cenv fp AA) (A1 := X.A.in1.in1) (J := J) (W := W) hAA.symm hc (by show cenv.scope.isCoroutine = false; rw [cS]; exact hco) rfl rfl rfl T e1 e2 e3 (fun acc ps' hp p hq b hb => ?_) turn m0 m0 0 _ s'' s'' H4 (Nat.le_refl _) w0 ⟨_, _, rfl⟩ (fun p hq => (hs''.inv.pin p (List.mem_append_right _ hq)).1) hs''⟩
      obtain ⟨t, cc, rfl⟩ := hp
      have hb4 := (f4 b hb).2
      rcases List.mem_cons.mp hq with rfl | hq
      · exact Nat.ne_of_gt (Nat.lt_trans hb4 lt4)
      · obtain rfl : p = (S, sumObj acc t cc) := by simpa using hq
        exact Nat.ne_of_gt (Nat.lt_trans hb4 lt4S)
  cases hf : codeAmong gpos ps.toList with
  | none =>
    refine wpAny_genexprCodeX hcode (cd.code hPs htr) (cd.tab hPs) hf fun c' h3 tk hx hge hlt hco' _ htab' _ => ?_
    obtain ⟨o1, vs, f1, tf, fl, tg, inF, tx, tt, op, _, _, _, _, _, _, _, _, _, htr', _⟩ := hco'
    exact cont _ h3 tk _ hx (Nat.le_trans hge (Nat.le_of_lt hlt)) htab'.2 ⟨_, rfl⟩ htr'
  | some cv =>
    refine wpAny_genexprCode_hit hcode (cd.code hPs htr) hf ?_
    exact cont cv s2.heap s2.toks ps (Heap.ExtBut.refl _ _) (Nat.le_refl _) hPs ⟨#[], by simp⟩ htr
end
end L2.P3
/-! P3gc: sum of a generator expression, plainly. -/
namespace L2.P3
open PySem PySem.Spec PyProof.Rows GenW L2
def onInt (x : PV) (f : Int → Prop) : Prop := match x with
  | .int k => f k
  | _ => False
theorem onInt_ex {x : PV} {f : Int → Prop} (h : onInt x f) : ∃ k, x = .int k ∧ f k := by
  cases x <;> first | exact ⟨_, rfl, h⟩ | exact h.elim
theorem onInt_mo {x : PV} {f g : Int → Prop} (h : ∀ k, f k → g k) (q : onInt x f) : onInt x g := by
  cases x <;> first | exact h _ q | exact q.elim
def pSumL (chk : Store → Prop) (g : PTG) (tt : PTT) (te : PTE) (E : XW) (ρ0 : PEnv) (Q : PQ) : List PV → Int → Store → Prop
  | [], acc, S => chk S ∧ Q (.int acc) S
  | x :: xs, acc, S => chk S ∧ g E x ρ0 S fun ρ1 S1 => tt E ρ1 S1 fun b S2 => Br b (te E ρ1 S2 fun y S3 => onInt y fun k => pSumL chk g tt te E ρ0 Q xs (acc + k) S3) (pSumL chk g tt te E ρ0 Q xs acc S2)
def pSum (i : PTI) (g : PTG) (tt : PTT) (te : PTE) (ws : List Nat) : PTE := fun E ρ S Q => i E ρ S fun it S1 => pSumL it.chk g tt te E (wipeP ρ ws) Q it.items 0 S1
theorem pSumL_mo {chk : Store → Prop} {g : PTG} {tt : PTT} {te : PTE} [MoG g] [MoT tt] [MoE te] {E : XW} {ρ0 : PEnv} {Q Q' : PQ} (h : ∀ x S, Q x S → Q' x S) : ∀ {xs : List PV} {acc : Int} {S : Store}, pSumL chk g tt te E ρ0 Q xs acc S → pSumL chk g tt te E ρ0 Q' xs acc S
  | [], acc, S, q => ⟨q.1, h _ _ q.2⟩
  | x :: xs, acc, S, q => by
    unfold pSumL at q ⊢
    refine ⟨q.1, MoG.mo (g := g) (fun _ _ q => MoT.mo (f := tt) (fun b _ q => ?_) q) q.2⟩
    cases b with
    | false => exact pSumL_mo h q
    | true => exact MoE.mo (f := te) (fun _ _ q => onInt_mo (fun _ q => pSumL_mo h q) q) q
instance {i : PTI} {g : PTG} {tt : PTT} {te : PTE} {ws : List Nat} [MoI i] [MoG g] [MoT tt] [MoE te] : MoE (pSum i g tt te ws) := ⟨fun h q => MoI.mo (f := i) (fun _ _ q => pSumL_mo h q) q⟩
section
variable {bk : BagKind} {K : PySem.W.Frag} {M : Am} {S : Store} {H H2 : Hp} {P : Addr}
/-- the table at P has grown -/
theorem Sto.tabbed (s : Sto K bk M S H) (hP : GxR.TabG H P) (t : GxR.Tabbed P H H2) : Step M H M H2 ∧ Sto K bk M S H2 := by
  obtain ⟨ps, hp, htr⟩ := hP
  obtain ⟨⟨ps2, hp2, htr2⟩, ho⟩ := t
  have ne : ∀ b x, H b = some x → (∀ q, x ≠ .tbl q) → b ≠ P := fun b x e q z => by
    rw [z, hp] at e
    exact q ps (Option.some.inj e).symm
  have st : Step M H M H2 := by
    refine ⟨⟨[], by simp⟩, ⟨[], by simp⟩, rfl, fun b x _ _ hx e => ?_, fun b hb => ?_, fun b hb => ?_, fun b h h' => absurd h h'⟩
    · rw [ho b (ne b x e hx)]; exact e
    · by_cases z : b = P
      · rw [z]; exact ⟨ps2, hp2, htr2⟩
      · obtain ⟨q, e, r⟩ := hb
        exact ⟨q, by rw [ho b z]; exact e, r⟩
    · by_cases z : b = P
      · rw [z, hp2]; simp
      · rw [ho b z]; exact hb
  refine ⟨st, ⟨s.st.len, s.st.lenk, s.st.nd, fun n xs e => ?_⟩, ?_, s.apart, fun Q hQ => st.tab Q (s.tabs Q hQ)⟩
  · obtain ⟨a, c, o, e1, e2, e3, ce⟩ := s.st.at_ n xs e
    refine ⟨a, c, o, e1, e2, ?_, ce.step s st⟩
    rw [ho a (ne a o e3 fun q z => ?_)]
    · exact e3
    · subst z
      cases c with
      | lst => obtain ⟨_, z, _⟩ := ce; cases z
      | dic => obtain ⟨_, _, _, z, _⟩ := ce; cases z
      | ins => obtain ⟨_, _, _, _, _, z, _⟩ := ce; cases z
  · have hb := s.bag
    cases hM : M.bag with
    | none => trivial
    | some own =>
      rw [hM] at hb
      obtain ⟨h1, h2, cs, h3, h4, h5⟩ := hb
      refine ⟨h1, h2, cs, h3, h4, fun n a e => ?_⟩
      obtain ⟨c, e1, e2⟩ := h5 n a e
      exact ⟨c, e1, by rw [ho a (ne a _ e2 fun q z => by cases z)]; exact e2⟩
end
section
variable {bk : BagKind} {X : Cx}
theorem sum_sound {wi : TI} {g : TG} {tt : TT} {te : TE} {ws : List Nat} {i : PTI} {pg : PTG} {pt : PTT} {pe : PTE} {P : Addr} (hP : P ∈ bk.tabs)
    (hi : ∀ (E : XW) M ρ S σ H R R', Rel X.K bk M ρ S σ H → i E ρ S R → (∀ M' S' H' it J, Step M H M' H' → Sto X.K bk M' S' H' → ItOk bk X.K it J M' H' → R it S' → R' J H') → wi σ H R')
    (hg : ∀ (E : XW) M ρ S σ0 H x v (Q : PEnv → Store → Prop) (Q' : St → Hp → Prop), Rel X.K bk M ρ S (wipe σ0 ws) H → Rp X.K bk.root M H x v → pg E x ρ S Q →
      (∀ M' ρ' S' σ' H', wipe σ' ws = wipe σ0 ws → Step M H M' H' → Rel X.K bk M' ρ' S' σ' H' → Q ρ' S' → Q' σ' H') → g v (wipe σ0 ws) H Q')
    (ht : ∀ (E : XW) M ρ S σ H Q Q', Rel X.K bk M ρ S σ H → pt E ρ S Q → PostT bk X.K M H Q Q' → tt σ H Q')
    (he : ∀ (E : XW) M ρ S σ H Q Q', Rel X.K bk M ρ S σ H → pe E ρ S Q → Post bk X.K M H Q Q' → te σ H Q')
    (E : XW) (M : Am) (ρ : PEnv) (S : Store) (σ : St) (H : Hp) (Q : PQ) (Q' : VK) (R : Rel X.K bk M ρ S σ H) (q : pSum i pg pt pe ws E ρ S Q) (p : Post bk X.K M H Q Q') : tSumG P wi g tt te ws σ H Q' := by
  refine hi E M ρ S σ H _ _ R q fun M1 S1 H1 it J t1 s1 ok q1 => ⟨s1.tabs P hP, fun H2 tb => ?_⟩
  obtain ⟨t2, s2⟩ := s1.tabbed (s1.tabs P hP) tb
  refine ⟨fun k acc j H3 => j = it.items.length - k ∧ k ≤ it.items.length ∧ ∃ M2 S2, Step M1 H2 M2 H3 ∧ Sto X.K bk M2 S2 H3 ∧ pSumL it.chk pg pt pe E (wipeP ρ ws) Q (it.items.drop k) acc S2,
    ⟨_, rfl, Nat.zero_le _, _, _, .refl _ _, s2, q1⟩, ?_⟩
  rintro k acc j H3 ⟨rfl, hk, M2, S2, t3, s3, q2⟩
  have t13 := t1.trans (t2.trans t3)
  by_cases hlt : k < it.items.length
  · rw [List.drop_eq_getElem_cons hlt] at q2
    unfold pSumL at q2
    obtain ⟨hck, q2⟩ := q2
    obtain ⟨hgo, hy⟩ := (ok M2 S2 H3 k (t2.trans t3) s3 hck).1 it.items[k] (by simp [hlt])
    refine .inr ⟨hgo, by omega, fun acc' H' => ∃ M3 S3, Step M1 H2 M3 H' ∧ Sto X.K bk M3 S3 H' ∧ pSumL it.chk pg pt pe E (wipeP ρ ws) Q (it.items.drop (k + 1)) acc' S3, fun acc' H' z => ⟨_, by omega, rfl, hlt, z⟩, fun v H4 y => ?_⟩
    obtain ⟨t4, s4, r4⟩ := hy v H4 y
    refine hg E M2 _ S2 σ H4 _ v _ _ ((R.step (t13.trans t4) s4).wipe ws) r4 q2 fun M5 ρ5 S5 σ5 H5 hw t5 R5 q5 => ⟨hw, ?_⟩
    refine ht E M5 ρ5 S5 σ5 H5 _ _ R5 q5 fun M6 S6 H6 b t6 s6 q6 => ?_
    have t36 := t3.trans (t4.trans (t5.trans t6))
    cases b with
    | false =>
      rw [if_neg Bool.false_ne_true]
      exact ⟨M6, S6, t36, s6, q6⟩
    | true =>
      rw [if_pos rfl]
      refine he E M6 ρ5 S6 σ5 H6 _ _ (R5.step t6 s6) q6 fun M7 S7 H7 y7 v7 t7 s7 r7 q7 => ?_
      obtain ⟨kk, rfl, q7⟩ := onInt_ex q7
      rw [Rp] at r7
      exact ⟨kk, r7, M7, S7, t36.trans t7, s7, q7⟩
  · have e : k = it.items.length := by omega
    subst e
    rw [List.drop_length] at q2
    obtain ⟨hck, q2⟩ := q2
    exact .inl ⟨(ok M2 S2 H3 _ (t2.trans t3) s3 hck).2 (by simp), p M2 S2 H3 _ _ t13 s3 (by rw [Rp]) q2⟩
/-- a generator expression's scope -/
structure GScp (N : List Str) (sc scope : Scope) (own : List (Str × Nat)) : Prop where
  ok : BlkOk N sc scope own
  co : scope.isCoroutine = false
  cell : ∀ y ∈ scope.names, y.2 ≠ .cell
  dot : scope.names.lookup (".0" : Str) = some NameKind.local
theorem gscp_by {N : List Str} {sc scope : Scope} {own : List (Str × Nat)} (ok : BlkOk N sc scope own) (co : scope.isCoroutine = false) (cell : (scope.names.all fun y => decide (y.2 ≠ .cell)) = true) (dot : scope.names.lookup (".0" : Str) = some NameKind.local) : GScp N sc scope own :=
  ⟨ok, co, fun y hy => of_decide_eq_true (List.all_eq_true.mp cell y hy), dot⟩
/-- sum(elt for tg in iter if ..) -/
theorem q_sumG {c P : Addr} {k : Nat} {elt tg iter : Expr} {ifs : List Expr} {scope : Scope} {own : List (Str × Nat)} {p pos gpos : Pos} {i : PTI} {pg : PTG} {pt : PTT} {pe : PTE} {ws : List Nat} (hr : Room (k + 1) X.A) (hc : X.calm = true) (hN : X.N.Nodup) (hgl : Gl X "sum") (hm : X.mg "sum" = none)
    (TB : GxR.TabB X.base X.mg c P) (hcode : X.env.code = .ref c) (hP : P ∈ bk.tabs) (sc : GScp X.N X.env.scope scope own) (hws : own.map (·.2) = ws) (hi : QI bk X tg iter i)
    (hg : ∀ (s : Shared) (H : Hp) (cl : List (Str × Addr)) (C : Addr) (code : Value) (bi : Addr) (fp : List Addr) (A' : Around), Room k A' → QGw bk (gblk X s H scope (genEnv scope cl C code bi X.env) fp A') tg pg ws)
    (ht : ∀ (s : Shared) (H : Hp) (cl : List (Str × Addr)) (C : Addr) (code : Value) (bi : Addr) (fp : List Addr) (A' : Around), Room k A' → QTs bk (gblk X s H scope (genEnv scope cl C code bi X.env) fp A') ifs pt)
    (he : ∀ (s : Shared) (H : Hp) (cl : List (Str × Addr)) (C : Addr) (code : Value) (bi : Addr) (fp : List Addr) (A' : Around), Room k A' → QE bk (gblk X s H scope (genEnv scope cl C code bi X.env) fp A') elt pe)
    (hs : ∀ v, genFold iter X.env v = pure v := by intro _; rfl)
    (hst : starEach [.GeneratorExp elt [⟨tg, iter, ifs, 0⟩] scope gpos] X.env = (false, eval (.GeneratorExp elt [⟨tg, iter, ifs, 0⟩] scope gpos) X.env) :: starEach [] X.env := by rfl) :
    QE bk X (.Call (.Name "sum" p) [.GeneratorExp elt [⟨tg, iter, ifs, 0⟩] scope gpos] [] pos) (pSum i pg pt pe ws) := by
  obtain ⟨ti, pi, wi⟩ := hi.ex
  subst hws
  refine ⟨_, pe_sumG (g := tGw bk X.K (own.map (·.2)) pg) (tt := tT bk X.K pt) (te := tE bk X.K pe) hr hc hN hgl hm TB hcode sc.co sc.cell sc.dot sc.ok pi (fun s H cl C code bi fp A' r => (hg s H cl C code bi fp A' r).canon) (fun s H cl C code bi fp A' r => (ht s H cl C code bi fp A' r).canon) (fun s H cl C code bi fp A' r => (he s H cl C code bi fp A' r).canon) hs hst, fun E M ρ S σ H Q Q' R q p => ?_⟩
  exact sum_sound hP wi (fun E M ρ S σ0 H x v Q Q' R r q k => ⟨E, M, ρ, S, σ0, x, Q, rfl, R, r, q, k⟩) (fun E M ρ S σ H Q Q' R q k => ⟨E, M, ρ, S, Q, R, q, k⟩) (fun E M ρ S σ H Q Q' R q k => ⟨E, M, ρ, S, Q, R, q, k⟩) E M ρ S σ H Q Q' R q p
end
end L2.P3
/-! P3gd: defs whose code object is known; the law's end with tables; sums that are walked. -/
namespace L2.P3
open PySem PySem.Spec PyProof.Rows L2
section
variable {P : Program} {w : World} {K : PySem.W.Frag} {mg : Str → Option Value} {base : Heap} {bk : BagKind}
/-- as Fun.ok; the code object is told -/
theorem fun_okg {x qual : Str} {st : Stmt} {f : Addr} {fd : FuncData} {N ps : List Str} {k : Nat} {sp : Sp} (F : Fun K x qual st f fd) (S : FnScope N ps (defScope st)) (len : ∀ vs H Q E, sp vs H Q E → vs.length = ps.length)
    (hbody : ∀ (cdv : Value) (A : Around) (outer : List PySem.Env) (s : Shared) (H : Hp) (vs : List V) (Q : VK) (E : XK), fd.code = cdv → Room k (A.deeper (envOfC qual (defScope st) s.heap.objs.size f cdv)) → sp vs H Q E →
      ∃ t, PSs (cxOf CX0 P w K mg base N qual (defScope st) f cdv A outer s H E).nox (defBody st) t ∧ t { nx := fun _ H' => Q .non H', rt := Q } (start N vs) H) : FnOk P w K mg base CX0 (k + 1) f fd ps sp := by
  obtain ⟨oc, od, kV, doc, pm, an, cdv, ct, osl, rfl, lk, hcd⟩ := F.ex
  refine fn_of lk hcd S len fun A outer s H vs Q E hr hsp => ?_
  obtain ⟨t, h, q⟩ := hbody cdv A outer s H vs Q E rfl hr hsp
  exact ⟨t, h.nox, q⟩
theorem ok0g {x qual : Str} {st : Stmt} {f : Addr} {fd : FuncData} {N ps : List Str} {k n : Nat} {b : PTS} (F : Fun K x qual st f fd) (Sc : FnScope N ps (defScope st)) (hn : ps.length = n)
    (h : ∀ (cdv : Value) (A : Around) (outer : List PySem.Env) (s : Shared) (H : Hp) (E : XK), fd.code = cdv → Room k (A.deeper (envOfC qual (defScope st) s.heap.objs.size f cdv)) → QSs bk (cxOf CX0 P w K mg base N qual (defScope st) f cdv A outer s H E).nox (defBody st) b) :
    FnOk P w K mg base CX0 (k + 1) f fd ps (sp0 bk K (pDef0 n N.length b)) := by
  refine fun_okg F Sc (fun vs H Q E q => ?_) (fun cdv A outer s H vs Q E hcd hr q => ?_)
  · obtain ⟨bag, xs, _, r, hl, _⟩ := q
    rw [r.length, hl, hn]
  · obtain ⟨bag, xs, st0, r, hl, q⟩ := q
    obtain ⟨t, p, wt⟩ := (h cdv A outer s H E hcd hr).ex
    refine ⟨t, p, wt noX ⟨[], bag, []⟩ (start0 N.length xs) [] (start N vs) H _ _ (rel_start st0 r) q ⟨?_, ?_, fun _ _ _ _ _ _ _ z => z.elim, fun _ _ _ _ _ _ _ z => z.elim⟩⟩
    · intro M' ρ' S' σ' H' t' R' q'
      have f := st0.forget (G := S') t' R'.sto
      exact q' H' .non f.1 f.2 to_non
    · intro M' S' H' x v t' s' r' q'
      have f := st0.forget (G := S') t' s'
      exact q'.2 H' v f.1 f.2 (r'.only t'.bag q'.1)
theorem okSg {x qual : Str} {st : Stmt} {f : Addr} {fd : FuncData} {N ps : List Str} {k n : Nat} {b : PTS} (F : Fun K x qual st f fd) (Sc : FnScope N ps (defScope st)) (hn : ps.length = n)
    (h : ∀ (cdv : Value) (A : Around) (outer : List PySem.Env) (s : Shared) (H : Hp) (E : XK), fd.code = cdv → Room k (A.deeper (envOfC qual (defScope st) s.heap.objs.size f cdv)) → QSs bk (cxOf CX0 P w K mg base N qual (defScope st) f cdv A outer s H E).nox (defBody st) b) :
    FnOk P w K mg base CX0 (k + 1) f fd ps (spS bk K (pDefS n N.length b)) := by
  refine fun_okg F Sc (fun vs H Q E q => ?_) (fun cdv A outer s H vs Q E hcd hr q => ?_)
  · obtain ⟨M, S, xs, _, r, hl, _⟩ := q
    rw [r.length, hl, hn]
  · obtain ⟨M, S, xs, st0, r, hl, q⟩ := q
    obtain ⟨t, p, wt⟩ := (h cdv A outer s H E hcd hr).ex
    refine ⟨t, p, wt noX M (start0 N.length xs) S (start N vs) H _ _ (rel_start st0 r) q ⟨?_, ?_, fun _ _ _ _ _ _ _ z => z.elim, fun _ _ _ _ _ _ _ z => z.elim⟩⟩
    · intro M' ρ' S' σ' H' t' R' q'
      exact q' M' H' .non t' R'.sto to_non
    · intro M' S' H' x v t' s' r' q'
      exact q' M' H' v t' s' r'
theorem okCg {x qual : Str} {st : Stmt} {f : Addr} {fd : FuncData} {N ps : List Str} {k n : Nat} {b : PTS} (F : Fun K x qual st f fd) (Sc : FnScope N ps (defScope st)) (hn : ps.length = n)
    (h : ∀ (cdv : Value) (A : Around) (outer : List PySem.Env) (s : Shared) (H : Hp) (E : XK), fd.code = cdv → Room k (A.deeper (envOfC qual (defScope st) s.heap.objs.size f cdv)) → QSs bk (cxOf CX0 P w K mg base N qual (defScope st) f cdv A outer s H E).nox (defBody st) b) :
    FnOk P w K mg base CX0 (k + 1) f fd ps (spS bk K (pDefC n N.length b)) := by
  refine fun_okg F Sc (fun vs H Q E q => ?_) (fun cdv A outer s H vs Q E hcd hr q => ?_)
  · obtain ⟨M, S, xs, _, r, hl, _⟩ := q
    rw [r.length, hl, hn]
  · obtain ⟨M, S, xs, st0, r, hl, q⟩ := q
    obtain ⟨t, p, wt⟩ := (h cdv A outer s H E hcd hr).ex
    refine ⟨t, p, wt noX M (start0 N.length xs) S (start N vs) H _ _ (rel_start st0 r) q ⟨?_, ?_, fun _ _ _ _ _ _ _ z => z.elim, fun _ _ _ _ _ _ _ z => z.elim⟩⟩
    · rintro M' ρ' S' σ' H' t' R' ⟨⟨G, rfl⟩, q'⟩
      have f := st0.forget t' R'.sto
      exact q' M H' .non f.1 f.2 to_non
    · rintro M' S' H' x v t' s' r' ⟨hb, ⟨G, rfl⟩, q'⟩
      have f := st0.forget t' s'
      obtain ⟨l, e⟩ := t'.pre
      obtain ⟨j, ek⟩ := t'.prek
      exact q' M H' v f.1 f.2 (r'.cut e ek st0.lens t'.bag (by rw [st0.st.len]; exact hb))

/-- the script: locked, or to be locked -/
def spLawG (tabs : List Addr) (K : PySem.W.Frag) : Sp := fun vs H Q _ => ∃ (a : Addr) (ns : List Int), vs = [.ref a] ∧ SqL K H a (ns.map V.int) ∧ ns.length ≤ 63 ∧ (∀ P ∈ tabs, Tbl H P) ∧ ∀ H', Q (.bl true) H'
theorem law_lock {k : Nat} {f : Addr} {fd : FuncData} {tabs : List Addr} (F : FnOk P w K mg base CX0 k f fd ["script"] (spLawT tabs K)) : FnOk P w K mg base CX0 k f fd ["script"] (spLawG tabs K) := by
  refine ⟨fun vs H Q E q => ?_, fun A outer s H args us vs Q E hr e0 hb hv hs => ?_⟩
  · obtain ⟨a, ns, rfl, _⟩ := q; rfl
  · obtain ⟨a, ns, rfl, hS, hl, tb, q⟩ := hs
    rcases hS with (h | ⟨o, h⟩) | h
    · obtain ⟨hz, its, n, rv, ho⟩ := e0.hok a _ h
      generalize hob : ({ cls := .type "list", data := .seq its.toArray n } : Obj) = ob at ho
      have ne : ∀ b u, H b = some u → (∀ xs, u ≠ .lst xs) → b ≠ a := fun b u e z x => by
        rw [x, h] at e
        exact z _ (Option.some.inj e).symm
      have nn : ∀ b, H b = none → b ≠ a := fun b e x => by rw [x, h] at e; cases e
      have hok' : HOk P w (upd H a (.frz ob (.lst (ns.map V.int)))) s.heap := fun b u e => by
        by_cases hb : b = a
        · subst hb
          rw [upd_same] at e
          cases e
          exact ⟨ho, hz, its, n, rv, by rw [hob]; exact ho⟩
        · rw [upd_ne hb] at e
          exact (e0.hok b u e).stay (fun _ _ _ z => z) (fun c z => by rw [upd_ne (ne c _ z fun xs z => by cases z)]; exact z) fun c xs z => by rw [upd_ne (ne c _ z fun xs z => by cases z)]; exact z
      have e1 : Env0 P w K mg base A outer s (upd H a (.frz ob (.lst (ns.map V.int)))) :=
        ⟨e0.frames, e0.mod, fun b o e => ⟨(e0.bs b o e).1, by rw [upd_ne (nn b (e0.bs b o e).2)]; exact (e0.bs b o e).2⟩, e0.bsz, e0.funs, fun b hb => by rw [upd_ne (nn b (e0.frf b hb))]; exact e0.frf b hb, hok', e0.bare⟩
      refine codeAny_mono (F.run A outer s _ args us [.ref a] (fun v _ => v = .bl true) (fun _ _ _ => False) hr e1 hb hv ⟨a, ns, rfl, .inl ⟨ob, upd_same⟩, hl, fun P hP => ?_, fun _ => rfl⟩) fun r s' hr' => ?_
      · obtain ⟨ps, z, t⟩ := tb P hP
        exact ⟨ps, by rw [upd_ne (ne P _ z fun xs z => by cases z)]; exact z, t⟩
      · cases r with
        | error e => exact hr'.elim
        | ok fl =>
          cases fl with
          | next => exact False.elim hr'
          | brk => exact False.elim hr'
          | cont => exact False.elim hr'
          | ret u =>
            obtain ⟨v, H', os, bare, un, hok2, r2, rfl⟩ := hr'
            refine ⟨.bl true, H', os, bare, ?_, hok2, r2, q H'⟩
            refine ⟨fun b o e n hb hx => un.keep b o e (by rw [upd_ne (nn b n)]; exact n) hb hx, fun b o e n hb hx => un.slot b o e (by rw [upd_ne (nn b n)]; exact n) hb hx, fun b o e n hx => un.free b o e (by rw [upd_ne (nn b n)]; exact n) hx, un.there,
              fun b xs e => un.tups b xs (by rw [upd_ne (ne b _ e fun xs z => by cases z)]; exact e), fun b o u e => un.frzs b o u (by rw [upd_ne (ne b _ e fun xs z => by cases z)]; exact e), fun b ps e => un.tbls b ps (by rw [upd_ne (ne b _ e fun xs z => by cases z)]; exact e)⟩
    · exact F.run A outer s H args us [.ref a] Q E hr e0 hb hv ⟨a, ns, rfl, .inl ⟨o, h⟩, hl, tb, q⟩
    · exact F.run A outer s H args us [.ref a] Q E hr e0 hb hv ⟨a, ns, rfl, .inr h, hl, tb, q⟩
theorem spLawG_start {cs : List (Addr × Addr)} {H : Hp} {a : Addr} {ns : List Int} (hT : ∀ p ∈ cs, H p.2 = some (.tbl #[])) (hS : SqL K H a (ns.map V.int)) (hl : ns.length ≤ 63) : spLawG (cs.map (·.2)) K [.ref a] H (fun v _ => v = .bl true) fun _ _ _ => False := by
  refine ⟨a, ns, rfl, hS, hl, fun P hP => ?_, fun _ => rfl⟩
  obtain ⟨p, hp, rfl⟩ := List.mem_map.mp hP
  exact ⟨#[], hT p hp, trivial⟩
end
/-- every def of the view has an empty table: as the end for the law's own def, for all of them -/
theorem walk_ofAll {l : PySem.W.OpenLaw} {n k : Nat} {q : Program} {loose : List Str} {XP : (Str → Option Value) → Heap → Prop} {YP : World → Heap → Prop} {d : DefRec} {K : Params → PySem.W.Frag} {CX : World → CXT} {x : Str}
    (hn : l.most = some n) (hn2 : n ≤ sizeLine) (hdf : d.params.defaults = []) (hr : Room k callerA) (hY : ∀ (w : World) (h : Heap), YP w h → (K w.params).In h)
    (F : ∀ (w : World) (mg : Str → Option Value) (fa : Addr) (h : Heap), YP w h → (K w.params).In h → h.Ns mainGlobals mg → mg d.name = some (.ref fa) →
      (∀ (nm : Str) (f : Addr), ((recsOf q).any fun e => e.name == nm) = true → mg nm = some (.ref f) → LamX.OwnTab (K w.params) f h) → LamX.LawAtS l w (K w.params) (CX w) k n x mg fa h)
    (hCX : ∀ (w : World) (H : Hp) (s : Shared) (e : Value) (s' : Shared), CX w [] H s (fun _ _ _ => False) e s' → False) :
    PySem.W.WalkO q loose XP YP l.row.toRowW d [] (fun f vs => PySem.call f vs) := by
  refine Att.attach_callB hn hdf fun w s₀ s₁ mg mb fa o pm cd doc a vs ns G Y ho hd hcd hmg hobj hints hlen hbits hg => ?_
  have KX := hY w _ Y
  have own : ∀ (nm : Str) (f : Addr), ((recsOf q).any fun e => e.name == nm) = true → mg nm = some (.ref f) → LamX.OwnTab (K w.params) f s₁.heap := fun nm f hrec hmf c P o1 fd1 e dd vs1 sl k1 k2 k3 k4 k5 => by
    obtain ⟨dL, hm, hn1⟩ := List.any_eq_true.mp hrec
    have hn2 : dL.name = nm := beq_iff_eq.mp hn1
    obtain ⟨a', o', fd', c', P', h1, h2, h3, h4, h5, h6⟩ := G.T.tab dL hm
    rw [hn2, hmf] at h1
    cases h1
    have g1 := KX _ _ k1
    rw [g1] at h2
    cases h2
    rw [k2] at h3
    cases h3
    rw [k3] at h4
    cases h4
    obtain ⟨⟨oc, vc, e1, _, e3, e4⟩, hP⟩ := h6
    have g2 := KX _ _ k4
    rw [g2] at e1
    cases e1
    cases e3
    rw [k5] at e4
    cases e4
    exact hP
  obtain ⟨fd, cs, sp, hT, nT, C, hb, hsp, hF⟩ := F w mg fa _ Y KX G.T.g hmg own
  exact LamX.law_callTs KX G.T.g G.T.b G.T.builtins G.T.nolimit hg hT nT C G.T.bmain hobj hints (Nat.le_trans hlen hn2) hr hF hb (fun H hH hS => hsp H a ns hlen hbits hH hS) fun H e s' => hCX w H s₁ e s'
theorem tabB_gx {base : Heap} {mg : Str → Option Value} {c P : Addr} (h : LamX.TabB base mg c P) : GxR.TabB base mg c P := ⟨h.code, h.bm, h.gP⟩
end L2.P3
/-! P3ge: itertools.combinations, at the library's level (after HandS.RepeatKit). -/
namespace Cmb
open PySem
open Sem (wp)
theorem upd_size (h : Heap) (a : Addr) (f : Obj → Obj) : (h.update a f).objs.size = h.objs.size := (Heap.SameBut.update ..).1
theorem runs_hsz {M : Model} {Γ : Ctx} {p : Pos} {t : Sem PySem.Fin} {fs : List Frame} {s s' : Shared} {e : End} (h : Runs M Γ p t fs s e s') : s.heap.objs.size ≤ s'.heap.objs.size := by
  induction h <;> (try simp only [Shared.setGen, Heap.size_push, upd_size] at *) <;> omega
theorem returns_hsz {M : Model} {Γ : Ctx} {p : Pos} {s s' : Shared} {r : Result} (h : Returns M Γ p s r s') : s.heap.objs.size ≤ s'.heap.objs.size := runs_hsz h
theorem wakes_hsz {M : Model} {Γ : Ctx} {p : Pos} {g : Nat} {r : Resume} {s s' : Shared} {res : GenResult} (h : Wakes M Γ p g r s res s') : s.heap.objs.size ≤ s'.heap.objs.size := by
  unfold Wakes at h
  split at h
  · exact h.elim
  · split at h
    · obtain ⟨e₁, s₁, hr, _, _, rfl⟩ := h
      have q := runs_hsz hr
      exact q
    · rw [h.2]; exact Nat.le_refl _
    · rw [h.2]; exact Nat.le_refl _
  · obtain ⟨e₁, s₁, hr, _, _, rfl⟩ := h
    have q := runs_hsz hr
    exact q
  · rw [h.2]; exact Nat.le_refl _
  · rw [h.2]; exact Nat.le_refl _
theorem wp_hsz {α : Type} (M : Model) (Γ : Ctx) (n : Nat) (t : Sem α) : ∀ (Q : α → Pos → Shared → Prop) (E : Value → Pos → Shared → Prop) (p : Pos) (s : Shared), n ≤ s.heap.objs.size → wp M Γ t Q E p s →
    wp M Γ t (fun a p' s' => n ≤ s'.heap.objs.size ∧ Q a p' s') (fun e p' s' => n ≤ s'.heap.objs.size ∧ E e p' s') p s := by
  induction t with
  | pure a => intro Q E p s hn h; exact ⟨hn, h⟩
  | raise e => intro Q E p s hn h; exact ⟨hn, h⟩
  | unsupported _ => intro Q E p s _ h; exact h
  | finish _ => intro Q E p s _ h; exact h
  | rule _ k ih => intro Q E p s hn h; exact ih () Q E p s hn h
  | «at» p' k ih => intro Q E p s hn h; exact ih () Q E p' s hn h
  | load a _ k ih => intro Q E p s hn h; obtain ⟨o, ho, h⟩ := h; exact ⟨o, ho, ih o Q E p s hn h⟩
  | update a _ f k ih => intro Q E p s hn h; exact ⟨h.1, ih () Q E p _ (by show n ≤ (s.heap.update _ _).objs.size; rw [upd_size]; exact hn) h.2⟩
  | loadIfAlive a k ih => intro Q E p s hn h; exact ih _ Q E p s hn h
  | point _ k ih => intro Q E p s hn h; exact ih () Q E p s hn h
  | register _ _ => intro Q E p s _ h; exact h
  | alloc o k ih => intro Q E p s hn h; exact ih _ Q E p _ (by show n ≤ (s.heap.push _).objs.size; rw [Heap.size_push]; omega) h
  | fresh k ih => intro Q E p s hn h; exact ih _ Q E p _ hn h
  | ask k ih => intro Q E p s hn h; exact ih _ Q E p s hn h
  | choose src m k ih => intro Q E p s hn h; exact ⟨h.1, ih _ Q E p _ hn h.2⟩
  | os q _ k ih => intro Q E p s hn h; exact ih _ Q E p _ hn h
  | call c hd _ _ k ih => intro Q E p s hn h; obtain ⟨r, s', hr, h⟩ := h; exact ⟨r, s', hr, ih r Q E p s' (Nat.le_trans hn (returns_hsz hr)) h⟩
  | handled own k ih => intro Q E p s hn h; exact ih _ Q E p s hn h
  | genState g k ih => intro Q E p s hn h; obtain ⟨st, hs, h⟩ := h; exact ⟨st, hs, ih _ Q E p s hn h⟩
  | newGen c k ih => intro Q E p s hn h; exact ih _ Q E p _ hn h
  | resume g r _ k ih => intro Q E p s hn h; obtain ⟨res, s', hw, h⟩ := h; exact ⟨res, s', hw, ih res Q E p s' (Nat.le_trans hn (wakes_hsz hw)) h⟩
  | yield _ _ _ _ => intro Q E p s _ h; exact h
  | stack k ih => intro Q E p s hn h; exact ih _ Q E p s hn h
  | fork _ _ => intro Q E p s _ h; exact h
  | thread k ih => intro Q E p s hn h; exact ih _ Q E p s hn h
  | await _ _ _ _ _ => intro Q E p s _ h; exact h
theorem wpAny_hsz {α : Type} {M : Model} {A : Around} {s : Shared} {t : Sem α} {Q : α → Shared → Prop} {E : Value → Shared → Prop} {n : Nat} (hn : n ≤ s.heap.objs.size)
    (h : wpAny M A t (fun a s' => n ≤ s'.heap.objs.size → Q a s') (fun e s' => n ≤ s'.heap.objs.size → E e s') s) : wpAny M A t Q E s :=
  wpAny_mono (fun Γ p hΓ => wp_hsz M Γ n t _ _ p s hn (h Γ p hΓ) : wpAny M A t (fun a s' => n ≤ s'.heap.objs.size ∧ (n ≤ s'.heap.objs.size → Q a s')) (fun e s' => n ≤ s'.heap.objs.size ∧ (n ≤ s'.heap.objs.size → E e s')) s)
    (fun _ _ x => x.2 x.1) fun _ _ x => x.2 x.1
end Cmb

namespace Cmb
open PySem PySem.Spec
open Sem (wp)
theorem mro_c : mroOf (.type "itertools.combinations") = pure [.type "itertools.combinations", .type "object"] := by rw [mroOf_type]; kernel_rfl
theorem lookup_c_new : typeLookup (.type "itertools.combinations") "__new__" = pure (some (.builtin "itertools.combinations.__new__")) := by rw [typeLookup_type, builtinLookup_eq_fast]; kernel_rfl
theorem slot_c_init : Slot "itertools.combinations" "__init__" "object.__init__" :=
  .of (owner := "object") (n := "__init__") (by rw [typeLookup_type, builtinLookup_eq_fast]; kernel_rfl) (by decide +kernel) (by decide +kernel) (by decide +kernel)
    (by first | exact .inl (by decide +kernel) | exact .inr (by decide +kernel)) (by rw [isSubtype_type]; kernel_rfl)
theorem sub_c : isSubtype (.type "itertools.combinations") (.type "itertools.combinations") = pure true := by rw [isSubtype_type]; kernel_rfl
theorem called_c : TypeCalled "itertools.combinations" "itertools.combinations.__new__" "object.__init__" :=
  ⟨by decide +kernel, by decide +kernel, ⟨_, _, mro_c⟩, madeBy_type mro_c lookup_c_new (by decide +kernel), by decide +kernel, sub_c, slot_c_init⟩
theorem typeCall_c (a b : Value) : checkTypeCall "itertools.combinations" ⟨[a, b], []⟩ = pure () := by kernel_rfl
theorem newCall_c (a b : Value) : checkBuiltinCall "itertools.combinations.__new__" ⟨[.type "itertools.combinations", a, b], []⟩ = pure () := by kernel_rfl
theorem entry_c_new : entryFor table "itertools.combinations.__new__" = some Builtin.«itertools.combinations.__new__» := entryFor_of_tree (by kernel_rfl)
theorem slot_c_iter : Slot "itertools.combinations" "__iter__" "itertools.combinations.__iter__" :=
  .of (owner := "itertools.combinations") (n := "__iter__") (by rw [typeLookup_type, builtinLookup_eq_fast]; kernel_rfl) (by decide +kernel) (by decide +kernel) (by decide +kernel)
    (by first | exact .inl (by decide +kernel) | exact .inr (by decide +kernel)) sub_c
theorem slot_c_next : Slot "itertools.combinations" "__next__" "itertools.combinations.__next__" :=
  .of (owner := "itertools.combinations") (n := "__next__") (by rw [typeLookup_type, builtinLookup_eq_fast]; kernel_rfl) (by decide +kernel) (by decide +kernel) (by decide +kernel)
    (by first | exact .inl (by decide +kernel) | exact .inr (by decide +kernel)) sub_c
theorem entry_c_iter : entryFor table "itertools.combinations.__iter__" = some Builtin.«dict_keyiterator.__iter__» :=
  entryFor_alias (id' := "dict_keyiterator.__iter__") (by kernel_rfl) (by first | rfl | decide +kernel | (unfold String.splitOn; simp +decide [String.splitOnAux])) (by decide +kernel) (by kernel_rfl)
theorem entry_c_next : entryFor table "itertools.combinations.__next__" = some Builtin.«itertools.combinations.__next__» := entryFor_of_tree (by kernel_rfl)
theorem owner_c : Manifest.owners.lookup (String.ofList ['s', 'n', 'o', 'i', 't', 'a', 'n', 'i', 'b', 'm', 'o', 'c', '.', 's', 'l', 'o', 'o', 't', 'r', 'e', 't', 'i'].reverse) = some Manifest.sig_itertools_combinations := by kernel_rfl
theorem args_c_iter (a : Value) : argsOk "itertools.combinations.__iter__" ⟨[a], []⟩ := by
  unfold argsOk; rw [signature?_of (id := "itertools.combinations.__iter__") (n := ['_', '_', 'r', 'e', 't', 'i', '_', '_']) (o := ['s', 'n', 'o', 'i', 't', 'a', 'n', 'i', 'b', 'm', 'o', 'c', '.', 's', 'l', 'o', 'o', 't', 'r', 'e', 't', 'i']) (by kernel_rfl) owner_c]; kernel_rfl
theorem args_c_next (a : Value) : argsOk "itertools.combinations.__next__" ⟨[a], []⟩ := by
  unfold argsOk; rw [signature?_of (id := "itertools.combinations.__next__") (n := ['_', '_', 't', 'x', 'e', 'n', '_', '_']) (o := ['s', 'n', 'o', 'i', 't', 'a', 'n', 'i', 'b', 'm', 'o', 'c', '.', 's', 'l', 'o', 'o', 't', 'r', 'e', 't', 'i']) (by kernel_rfl) owner_c]; kernel_rfl
theorem noDict_c : typeHasDict (.type "itertools.combinations") = false := by decide +kernel
theorem nolen_c : typeLookup (.type "itertools.combinations") "__len__" = pure none := by rw [typeLookup_type, builtinLookup_eq_fast]; kernel_rfl
theorem nohint_c : typeLookup (.type "itertools.combinations") "__length_hint__" = pure none := by rw [typeLookup_type, builtinLookup_eq_fast]; kernel_rfl

/-- the object: its pool, its state (0 not begun, 1 running, 2 ended), the tuple that it gave last, its indices -/
abbrev IsCmb (h : Heap) (it pool : Addr) (st : Int) (last : Value) (ix : List Nat) : Prop := h.get? it = some { cls := .type "itertools.combinations", dict := none, data := .fields ([.ref pool, .int st 0, last] ++ ix.map fun (i : Nat) => rawInt i).toArray, slots := #[] }
theorem meets_c_new (l : Addr) (T : String) (o : Obj) (items : Array Value) (m : Nat) (n : Int) (t : Tok) (hT : T = "list" ∨ T = "tuple") (h0 : 0 ≤ n) (h1 : n ≤ 1000) (hz : items.size ≤ sizeLine) :
    Meets (Builtin.«itertools.combinations.__new__» ⟨[.type "itertools.combinations", .ref l, .int n t], []⟩)
      (fun _ R s => s.heap.get? l = some o ∧ o.cls = .type T ∧ o.data = .seq items m ∧
        ∀ h' it pool, s.heap.objs.size ≤ it → s.heap.objs.size ≤ pool → it ≠ pool → IsCmb h' it pool (if n.toNat > items.size then 2 else 0) .none (List.range n.toNat) → h'.IsTuple pool items → (∀ b o, s.heap.get? b = some o → h'.get? b = some o) → R (.ok (.ret (.ref it))) { s with heap := h' }) :=
  .of_wp fun prog w A R s h => by
    obtain ⟨hp, g, dd, tk, os⟩ := s
    have hsub : isSubtype (.type "itertools.combinations") (.type ("itertools." ++ "combinations")) = pure true := by rw [show ("itertools." ++ "combinations" : String) = "itertools.combinations" from by decide]; exact sub_c
    have hd := noDict_c
    obtain ⟨ho, hc, hdat, hq⟩ := h
    have hn : ¬ ((decide (n < -(2 ^ 63 : Int)) || decide (n ≥ (2 ^ 63 : Int))) = true) := by
      have a : decide (n < -(2 ^ 63 : Int)) = false := decide_eq_false (by omega)
      have b : decide (n ≥ (2 ^ 63 : Int)) = false := decide_eq_false (by omega)
      rw [a, b]
      decide
    have cs : ∀ {Q : List Value → Shared → Prop} {E : Value → Shared → Prop}, (∀ h', hp.objs.size ≤ h'.objs.size → (∀ b o', hp.get? b = some o' → h'.get? b = some o') → Q items.toList ⟨h', g, dd, tk, os⟩) → wpAny (model prog w) A.in1 (collect (.ref l)) Q E ⟨hp, g, dd, tk, os⟩ := fun hQ => wpAny_hsz (n := hp.objs.size) (Nat.le_refl _) (wpAny_collect_seq l hT ho hc hdat (fun h' hk hs => hQ h' hs hk) hz)
    have hn0 : ¬ n < 0 := by omega
    have htm : ¬ Builtin.Itertools.itTooMany n = true := by
      show ¬ decide (n > 2 ^ 20) = true
      rw [decide_eq_true_iff]; omega
    repeat (first
      | (refine cs fun h' hle hk => ?_)
      | (rw [if_neg hn0, if_neg htm])
      | wp_step
      | simp only [List.head?_cons, Option.some_or, List.getElem?_cons_succ, List.getElem?_cons_zero, List.length_cons, List.length_nil, List.forIn_nil]
      | (refine wpAny_of_eq hsub ?_)
      | (refine wpAny_ite_false (decide_eq_false hn) ?_))
    have hfz : ¬ ([Value.ref h'.objs.size, rawInt (if n.toNat > items.toList.length then 2 else 0), Value.none] ++ List.map (fun (i : Nat) => rawInt i) (List.range n.toNat)).toArray.size > sizeLine + 2 := by
      have e : sizeLine = 16777216 := rfl
      simp only [List.size_toArray, List.length_append, List.length_map, List.length_range, List.length_cons, List.length_nil]
      omega
    rw [if_neg hfz]
    repeat wp_step
    refine ⟨_, rfl, ?_⟩
    have z1 : (h'.push { cls := .type "tuple", data := .seq items.toList.toArray }).objs.size = h'.objs.size + 1 := Heap.size_push ..
    refine hq _ (h'.push { cls := .type "tuple", data := .seq items.toList.toArray }).objs.size h'.objs.size (by rw [z1]; exact Nat.le_succ_of_le hle) hle (by rw [z1]; exact Nat.succ_ne_self _) (Heap.get?_push_size _ rfl) ⟨_, Heap.get?_push_of_some _ (Heap.get?_push_size _ rfl), rfl, 0, by simp⟩ fun b u e => Heap.get?_push_of_some _ (Heap.get?_push_of_some _ (hk b u e))
section
variable {prog : Program} {w : World} {A : Around} {E : Value → Shared → Prop} {s : Shared}
theorem call_c {l : Addr} {T : String} {o : Obj} {items : Array Value} {m : Nat} {n : Int} {t : Tok} {Q : Value → Shared → Prop} (hT : T = "list" ∨ T = "tuple") (ho : s.heap.get? l = some o) (hoc : o.cls = .type T) (hod : o.data = .seq items m) (h0 : 0 ≤ n) (h1 : n ≤ 1000) (hz : items.size ≤ sizeLine)
    (h : ∀ h' it pool, s.heap.objs.size ≤ it → s.heap.objs.size ≤ pool → it ≠ pool → IsCmb h' it pool (if n.toNat > items.size then 2 else 0) .none (List.range n.toNat) → h'.IsTuple pool items → (∀ b o, s.heap.get? b = some o → h'.get? b = some o) → Q (.ref it) { s with heap := h' }) :
    wpAny (model prog w) A (call (.type "itertools.combinations") [.ref l, .int n t]) Q E s := by
  refine callType_new called_c (by decide +kernel) (typeCall_c _ _) (newCall_c _ _) (fun obj => F.args_object_init_3 obj _ _) entry_c_new (meets_c_new l T o items m n t hT h0 h1 hz) ⟨ho, hoc, hod, fun h' it pool a b c d e f => ?_⟩
  show _ ∧ _
  exact ⟨⟨_, d, rfl⟩, h h' it pool a b c d e f⟩
theorem iter_c {it pool : Addr} {st : Int} {last : Value} {ix : List Nat} {Q : Value → Shared → Prop} (hit : IsCmb s.heap it pool st last ix) (h : Q (.ref it) s) : wpAny (model prog w) A (pyIter (.ref it)) Q E s := by
  have hT : s.TypeIs (.ref it) "itertools.combinations" := ⟨_, hit, rfl⟩
  refine wpAny_pyIter_slot hT slot_c_iter (wpAny_call_entry slot_c_iter hT entry_c_iter ?_ (args_c_iter _))
  show wpAny _ _ (ret (.ref it)) _ _ s
  exact wpAny_pure ⟨_, rfl, "itertools.combinations", _, hT, slot_c_next.lookup, h⟩
theorem ixs_back (a b c : Value) (ix : List Nat) : (((([a, b, c] ++ ix.map fun (i : Nat) => rawInt i).toArray).toList.drop 3).map fun | .int n _ => n.toNat | _ => 0) = ix := by
  show ((ix.map fun (i : Nat) => rawInt i).map _) = ix
  rw [List.map_map]
  conv => rhs; rw [← List.map_id ix]
  exact List.map_congr_left fun i _ => rfl
theorem first_c {it pool : Addr} {items : Array Value} {ix : List Nat} {Q : Option Value → Shared → Prop} (hit : IsCmb s.heap it pool 0 .none ix) (hp : s.heap.IsTuple pool items) (hne : it ≠ pool) (hsz : ix.length ≤ sizeLine)
    (hQ : ∀ h' r, s.heap.objs.size ≤ r → IsCmb h' it pool 1 (.ref r) ix → h'.IsTuple r (ix.map fun i => items.getD i .none).toArray → (∀ b o, b ≠ it → s.heap.get? b = some o → h'.get? b = some o) → Q (some (.ref r)) { s with heap := h' }) :
    wpAny (model prog w) A (pyNext (.ref it)) Q E s := by
  have hT : s.TypeIs (.ref it) "itertools.combinations" := ⟨_, hit, rfl⟩
  unfold pyNext
  refine wpAny_bind (wpAny_attempt (wpAny_callSpecial?_slot (name := Str.ofString "__next__") hT slot_c_next (wpAny_call_entry slot_c_next hT entry_c_next ?_ (args_c_next _))))
  show wpAny _ _ (field (.ref it) 0 >>= _) _ _ s
  refine wpAny_bind (wpAny_field hit rfl (x := .ref pool) rfl ?_)
  show wpAny _ _ (Builtin.Itertools.itNumbersFrom (.ref it) 3 >>= _) _ _ s
  refine wpAny_bind ?_
  unfold Builtin.Itertools.itNumbersFrom
  refine wpAny_bind (wpAny_load hit (wpAny_pure ?_))
  show wpAny _ _ ((field (.ref it) 1 >>= _) >>= _) _ _ s
  refine wpAny_bind (wpAny_bind (wpAny_field hit rfl (x := .int 0 0) rfl (wpAny_pure ?_)))
  show wpAny _ _ (setField (.ref it) 1 (rawInt 1) >>= _) _ _ s
  refine wpAny_bind (wpAny_setField_rec hit (by simp) fun h₁ hit₁ hs₁ => ?_)
  replace hit₁ : IsCmb h₁ it pool 1 .none ix := hit₁
  have hp₁ : h₁.IsTuple pool items := hp.extBut hs₁.extBut (Ne.symm hne)
  obtain ⟨po, hpo, hpc, pm, hpd⟩ := hp₁
  show wpAny _ _ (((seqItems? (.ref pool) >>= _) >>= _) >>= _) _ _ _
  refine wpAny_bind (wpAny_bind (wpAny_bind (wpAny_seqItems hpo hpd (wpAny_pure ?_))))
  generalize hix : List.map _ (List.drop 3 _) = ix'
  obtain rfl : ix' = ix := by rw [← hix]; exact ixs_back _ _ _ _
  have hr : h₁.objs.size = h₁.objs.size := rfl
  refine wpAny_newObj_type ?_ (by show _ ≤ sizeLine; simpa using hsz)
  have hit₂ : IsCmb (h₁.push { cls := .type "tuple", data := .seq (ix'.map fun i => items.getD i .none).toArray }) it pool 1 .none ix' := Heap.get?_push_of_some _ hit₁
  show wpAny _ _ (field (.ref it) 2 >>= _) _ _ _
  refine wpAny_bind (wpAny_field hit₂ rfl (x := .none) rfl ?_)
  show wpAny _ _ (setField (.ref it) 2 _ >>= _) _ _ _
  refine wpAny_bind (wpAny_setField_rec hit₂ (by simp) fun h₃ hit₃ hs₃ => ?_)
  replace hit₃ : IsCmb h₃ it pool 1 (.ref h₁.objs.size) ix' := hit₃
  refine wpAny_bind (wpAny_letGo (wpAny_pure ⟨_, rfl, wpAny_pure ?_⟩))
  have itlt : it < h₁.objs.size := Heap.lt_size hit₁
  refine hQ h₃ h₁.objs.size ?_ hit₃ ⟨_, hs₃.extBut _ _ (Nat.ne_of_gt itlt) (Heap.get?_push_size _ rfl), rfl, 0, ?_⟩ fun b o hb e => hs₃.extBut _ _ hb (Heap.get?_push_of_some _ (hs₁.extBut _ _ hb e))
  · rw [hs₁.1]; exact Nat.le_refl _
  · rfl
/-- the next indices: the last place that can still rise, and what stands behind it -/
def succC (n : Nat) (ix : List Nat) : Option (List Nat) :=
  match (List.range ix.length).reverse.find? (fun i => ix.getD i 0 != i + n - ix.length) with
  | none => none
  | some i => some (ix.take i ++ (List.range (ix.length - i)).map (ix.getD i 0 + 1 + ·))
theorem next_c {it pool : Addr} {last : Value} {items : Array Value} {ix nx : List Nat} {Q : Option Value → Shared → Prop} (hit : IsCmb s.heap it pool 1 last ix) (hp : s.heap.IsTuple pool items) (hne : it ≠ pool) (hst : succC items.size ix = some nx) (hsz : nx.length ≤ sizeLine)
    (hQ : ∀ h' r, s.heap.objs.size ≤ r → IsCmb h' it pool 1 (.ref r) nx → h'.IsTuple r (nx.map fun i => items.getD i .none).toArray → (∀ b o, b ≠ it → s.heap.get? b = some o → h'.get? b = some o) → Q (some (.ref r)) { s with heap := h' }) :
    wpAny (model prog w) A (pyNext (.ref it)) Q E s := by
  have hT : s.TypeIs (.ref it) "itertools.combinations" := ⟨_, hit, rfl⟩
  unfold pyNext
  refine wpAny_bind (wpAny_attempt (wpAny_callSpecial?_slot (name := Str.ofString "__next__") hT slot_c_next (wpAny_call_entry slot_c_next hT entry_c_next ?_ (args_c_next _))))
  show wpAny _ _ (field (.ref it) 0 >>= _) _ _ s
  refine wpAny_bind (wpAny_field hit rfl (x := .ref pool) rfl ?_)
  show wpAny _ _ (Builtin.Itertools.itNumbersFrom (.ref it) 3 >>= _) _ _ s
  refine wpAny_bind ?_
  unfold Builtin.Itertools.itNumbersFrom
  refine wpAny_bind (wpAny_load hit (wpAny_pure ?_))
  generalize hix : List.map _ (List.drop 3 _) = ix'
  obtain rfl : ix' = ix := by rw [← hix]; exact ixs_back _ _ _ _
  show wpAny _ _ ((field (.ref it) 1 >>= _) >>= _) _ _ s
  refine wpAny_bind (wpAny_bind (wpAny_field hit rfl (x := .int 1 0) rfl (wpAny_pure ?_)))
  obtain ⟨po, hpo, hpc, pm, hpd⟩ := id hp
  show wpAny _ _ ((seqItems? (.ref pool) >>= _) >>= _) _ _ _
  refine wpAny_bind (wpAny_bind (wpAny_seqItems hpo hpd (wpAny_pure ?_)))
  split
  · rename_i nx' heq
    have e : succC items.size ix' = some nx' := heq
    obtain rfl : nx' = nx := by rw [e] at hst; exact Option.some.inj hst
    refine wpAny_bind ?_
    unfold Builtin.Itertools.itSetNumbersFrom
    have ef : ((fun fs : Array Value => fs.extract 0 3 ++ (nx'.map fun (n : Nat) => rawInt n).toArray) ([Value.ref pool, Value.int 1 0, last] ++ ix'.map fun (i : Nat) => rawInt i).toArray) = ([Value.ref pool, Value.int 1 0, last] ++ nx'.map fun (i : Nat) => rawInt i).toArray := by
      simp
    refine wpAny_updateFields hit rfl ?_ (by
      show (((fun fs : Array Value => fs.extract 0 3 ++ (nx'.map fun (n : Nat) => rawInt n).toArray) _).size) ≤ sizeLine + 3
      rw [ef]
      simp only [List.size_toArray, List.length_append, List.length_map, List.length_cons, List.length_nil]
      omega)
    have hit₁ : (s.heap.update it (Obj.mapFields fun fs => fs.extract 0 3 ++ (nx'.map fun (n : Nat) => rawInt n).toArray)).get? it = some { cls := .type "itertools.combinations", dict := none, data := .fields ((fun fs : Array Value => fs.extract 0 3 ++ (nx'.map fun (n : Nat) => rawInt n).toArray) ([Value.ref pool, Value.int 1 0, last] ++ ix'.map fun (i : Nat) => rawInt i).toArray), slots := #[] } := Heap.get?_update_self _ hit rfl
    rw [ef] at hit₁
    have hs₁ : Heap.SameBut it s.heap (s.heap.update it (Obj.mapFields fun fs => fs.extract 0 3 ++ (nx'.map fun (n : Nat) => rawInt n).toArray)) := Heap.SameBut.update ..
    generalize hh₁ : s.heap.update it (Obj.mapFields fun fs => fs.extract 0 3 ++ (nx'.map fun (n : Nat) => rawInt n).toArray) = h₁ at hit₁ hs₁
    replace hit₁ : IsCmb h₁ it pool 1 last nx' := hit₁
    obtain ⟨po₁, hpo₁, hpc₁, pm₁, hpd₁⟩ := (hp.extBut hs₁.extBut (Ne.symm hne) : h₁.IsTuple pool items)
    show wpAny _ _ (((seqItems? (.ref pool) >>= _) >>= _) >>= _) _ _ _
    refine wpAny_bind (wpAny_bind (wpAny_bind (wpAny_seqItems (by first | exact hpo₁ | (rw [hh₁]; exact hpo₁)) hpd₁ (wpAny_pure ?_))))
    refine wpAny_newObj_type ?_ (by show _ ≤ sizeLine; simpa using hsz)
    first | rw [hh₁] | skip
    have hit₂ : IsCmb (h₁.push { cls := .type "tuple", data := .seq (nx'.map fun i => items.getD i .none).toArray }) it pool 1 last nx' := Heap.get?_push_of_some _ hit₁
    show wpAny _ _ (field (.ref it) 2 >>= _) _ _ _
    refine wpAny_bind (wpAny_field hit₂ rfl (x := last) rfl ?_)
    show wpAny _ _ (setField (.ref it) 2 _ >>= _) _ _ _
    refine wpAny_bind (wpAny_setField_rec hit₂ (by simp) fun h₃ hit₃ hs₃ => ?_)
    replace hit₃ : IsCmb h₃ it pool 1 (.ref h₁.objs.size) nx' := hit₃
    refine wpAny_bind (wpAny_letGo (wpAny_pure ⟨_, rfl, wpAny_pure ?_⟩))
    have itlt : it < h₁.objs.size := Heap.lt_size hit₁
    refine hQ h₃ h₁.objs.size ?_ hit₃ ⟨_, hs₃.extBut _ _ (Nat.ne_of_gt itlt) (Heap.get?_push_size _ rfl), rfl, 0, rfl⟩ fun b o hb e => hs₃.extBut _ _ hb (Heap.get?_push_of_some _ (hs₁.extBut _ _ hb e))
    rw [hs₁.1]; exact Nat.le_refl _
  · rename_i heq
    have e : succC items.size ix' = none := heq
    rw [e] at hst; cases hst
theorem end_c {it pool : Addr} {last : Value} {items : Array Value} {st : Int} {ix : List Nat} {Q : Option Value → Shared → Prop} (hh : A.handled = none) (hit : IsCmb s.heap it pool st last ix) (hp : s.heap.IsTuple pool items) (hne : it ≠ pool) (hst : st = 2 ∨ (st = 1 ∧ succC items.size ix = none))
    (hQ : ∀ h', (∀ b o, b ≠ it → s.heap.get? b = some o → h'.get? b = some o) → Q none { s with heap := h' }) :
    wpAny (model prog w) A (pyNext (.ref it)) Q E s := by
  have hT : s.TypeIs (.ref it) "itertools.combinations" := ⟨_, hit, rfl⟩
  unfold pyNext
  refine wpAny_bind (wpAny_attempt (wpAny_callSpecial?_slot (name := Str.ofString "__next__") hT slot_c_next (wpAny_call_entry slot_c_next hT entry_c_next ?_ (args_c_next _))))
  show wpAny _ _ (field (.ref it) 0 >>= _) _ _ s
  refine wpAny_bind (wpAny_field hit rfl (x := .ref pool) rfl ?_)
  show wpAny _ _ (Builtin.Itertools.itNumbersFrom (.ref it) 3 >>= _) _ _ s
  refine wpAny_bind ?_
  unfold Builtin.Itertools.itNumbersFrom
  refine wpAny_bind (wpAny_load hit (wpAny_pure ?_))
  generalize hix : List.map _ (List.drop 3 _) = ix'
  obtain rfl : ix' = ix := by rw [← hix]; exact ixs_back _ _ _ _
  show wpAny _ _ ((field (.ref it) 1 >>= _) >>= _) _ _ s
  rcases hst with rfl | ⟨rfl, hst⟩
  · refine wpAny_bind (wpAny_bind (wpAny_field hit rfl (x := .int 2 0) rfl (wpAny_pure ?_)))
    refine wpAny_bind (wpAny_rule ?_)
    show wpAny _ _ (newExc (.type "StopIteration") [] >>= _) _ _ _
    refine wpAny_bind ?_
    simp only [newExc, newTuple]
    refine wpAny_bind (wpAny_newObj_type ?_ (by size_fits))
    refine wpAny_bind (m := firstArgMember _ _) (wpAny_of_eq (a := Value.none) (by first | rfl | (simp only [firstArgMember]; rfl)) ?_)
    refine wpAny_newObj_type ?_ (by size_fits)
    simp only [raiseNew]
    refine wpAny_bind (wpAny_bind (wpAny_handled ?_))
    first | rw [show A.in1.handled = none from hh] | rw [hh]
    refine wpAny_pure (wpAny_throw ?_)
    refine wpAny_bind (wpAny_isInstance (T := "StopIteration") (b := true) ⟨_, Heap.get?_push_size _ rfl, rfl⟩ isSubtype_stop ?_)
    exact wpAny_pure (hQ _ fun b o _ e => Heap.get?_push_of_some _ (Heap.get?_push_of_some _ e))
  · refine wpAny_bind (wpAny_bind (wpAny_field hit rfl (x := .int 1 0) rfl (wpAny_pure ?_)))
    obtain ⟨po, hpo, hpc, pm, hpd⟩ := id hp
    show wpAny _ _ ((seqItems? (.ref pool) >>= _) >>= _) _ _ _
    refine wpAny_bind (wpAny_bind (wpAny_seqItems hpo hpd (wpAny_pure ?_)))
    split
    · rename_i nx' heq
      have e : succC items.size ix' = some nx' := heq
      rw [e] at hst; cases hst
    · show wpAny _ _ (setField (.ref it) 1 (rawInt 2) >>= _) _ _ s
      refine wpAny_bind (wpAny_setField_rec hit (by simp) fun h₁ hit₁ hs₁ => ?_)
      show wpAny _ _ (newExc (.type "StopIteration") [] >>= _) _ _ _
      refine wpAny_bind ?_
      simp only [newExc, newTuple]
      refine wpAny_bind (wpAny_newObj_type ?_ (by size_fits))
      refine wpAny_bind (m := firstArgMember _ _) (wpAny_of_eq (a := Value.none) (by first | rfl | (simp only [firstArgMember]; rfl)) ?_)
      refine wpAny_newObj_type ?_ (by size_fits)
      simp only [raiseNew]
      refine wpAny_bind (wpAny_bind (wpAny_handled ?_))
      first | rw [show A.in1.handled = none from hh] | rw [hh]
      refine wpAny_pure (wpAny_throw ?_)
      refine wpAny_bind (wpAny_isInstance (T := "StopIteration") (b := true) ⟨_, Heap.get?_push_size _ rfl, rfl⟩ isSubtype_stop ?_)
      exact wpAny_pure (hQ _ fun b o hb e => Heap.get?_push_of_some _ (Heap.get?_push_of_some _ (hs₁.extBut _ _ hb e)))
end
end Cmb
/-! P3gf: list(combinations(..)). -/
namespace Cmb
open PySem PySem.Spec PyProof.Rows L2 GenW L2.P3
def After (n : Nat) : List Nat → List (List Nat) → Prop
  | ix, [] => succC n ix = none
  | ix, nx :: L => succC n ix = some nx ∧ After n nx L
/-- what is still to come -/
def Rem (n : Nat) (st : Int) (last : Value) (ix : List Nat) (L : List (List Nat)) : Prop := (st = 2 ∧ L = []) ∨ (st = 1 ∧ After n ix L) ∨ (st = 0 ∧ last = .none ∧ ∃ L', L = ix :: L' ∧ After n ix L')
def pickV (xs : List V) (ix : List Nat) : List V := ix.map fun i => xs.getD i .non
theorem vals_getD {xs : List V} {us : List Value} (r : Vals xs us) (i : Nat) : RelV (xs.getD i .non) (us.getD i .none) := by
  cases e : xs[i]? with
  | some x =>
    obtain ⟨u, h1, h2⟩ := r.get e
    simp [List.getD, e, h1]
    exact h2
  | none =>
    have h1 := r.none_of e
    simp [List.getD, e, h1]
    rfl
theorem vals_pick {xs : List V} {us : List Value} (r : Vals xs us) : ∀ ix : List Nat, Vals (pickV xs ix) (ix.map fun i => us.toArray.getD i .none)
  | [] => .nil
  | i :: ix => .cons (by have := vals_getD r i; simpa [Array.getD_eq_getD_getElem?, List.getD] using this) (vals_pick r ix)
section
variable {X : Cx} {pins : List (Addr × Obj)} {σ : L2.St} {it pool S : Addr} {items : List Value} {xs : List V} {A : Around} {R : Result → Shared → Prop} {res : Value}
theorem drain_c (rv : Vals xs items) (hh : A.handled = none) (hne : it ≠ pool) (hSi : S ≠ it) (hSp : S ≠ pool) :
    ∀ (L : List (List Nat)) (st : Int) (last : Value) (ix : List Nat) (s : Shared) (H : Hp) (acc : List Addr) (c : Nat), Rem items.length st last ix L → (∀ l ∈ L, l.length ≤ 1000) → Inv X pins σ H s → IsCmb s.heap it pool st last ix → s.heap.IsTuple pool items.toArray →
      s.heap.get? S = some (lstObj (acc.map Value.ref).toArray c) → FpOk X pins H it → FpOk X pins H S → acc.length + L.length ≤ sizeLine →
      (∀ s' new H' c', Inv X pins σ H' s' → s'.heap.get? S = some (lstObj ((acc ++ new).map Value.ref).toArray c') → FpOk X pins H' S → (∀ b o, H b = some o → H' b = some o) → (∀ b, b < s.heap.objs.size → H' b = H b) → Paired (fun (r : Addr) (l : List Nat) => H' r = some (.tup (pickV xs l))) new L → R (.ok (.ret res)) s') →
      codeAny (model X.prog X.w) A (.builtin "list.extend.loop" ⟨[.ref S, .ref it, res], []⟩) R s := by
  intro L
  induction L with
  | nil =>
    intro st last ix s H acc c hrem hlen I hit hp hS hfi hfS hz hR
    refine codeAny_builtin F.entry_extend_loop ?_
    rw [Around.under_plainId F.plain_extend_loop _]
    show wpAny _ A.in1 (pyNext (.ref it) >>= _) _ _ s
    refine wpAny_bind (end_c hh hit hp hne ?_ fun h' hk => ?_)
    · rcases hrem with ⟨h1, _⟩ | ⟨h1, h2⟩ | ⟨_, _, L', h3, _⟩
      · exact .inl h1
      · exact .inr ⟨h1, by simpa [After] using h2⟩
      · cases h3
    · refine wpAny_pure (hR _ [] H c (I.turnedL (t' := s.toks) (ch := [it]) (fun b o hb e => hk b o (fun z => hb (by rw [z]; simp)) e) fun b hb => (show b = it by simpa using hb) ▸ hfi) (by rw [List.append_nil]; exact hk _ _ hSi hS) hfS (fun _ _ e => e) (fun _ _ => rfl) .nil)
  | cons nx L ih =>
    intro st last ix s H acc c hrem hlen I hit hp hS hfi hfS hz hR
    have hl := hlen nx (by simp)
    have hzz : nx.length ≤ sizeLine := Nat.le_trans hl (by decide)
    have hSlt : S < s.heap.objs.size := Heap.lt_size hS
    have hitlt : it < s.heap.objs.size := Heap.lt_size hit
    refine codeAny_builtin F.entry_extend_loop ?_
    rw [Around.under_plainId F.plain_extend_loop _]
    show wpAny _ A.in1 (pyNext (.ref it) >>= _) _ _ s
    refine wpAny_bind ?_
    -- a new tuple has come
    have turn : ∀ h' r, s.heap.objs.size ≤ r → IsCmb h' it pool 1 (.ref r) nx → h'.IsTuple r (nx.map fun i => items.toArray.getD i .none).toArray → (∀ b o, b ≠ it → s.heap.get? b = some o → h'.get? b = some o) → After items.length nx L →
        wpAny (model X.prog X.w) A.in1 (updateSeq S (·.push (.ref r)) >>= fun _ => again (.builtin "list.extend.loop" ⟨[.ref S, .ref it, res], []⟩)) (fun fin s' => match fin with | .done f => R (.ok f) s' | .again c' => c'.quiet = true ∧ codeAny (model X.prog X.w) A c' R s') (fun e s' => R (.error e) s') { s with heap := h' } := by
      intro h' r hr hit' ht hk haf
      have I1 : Inv X pins σ (upd H r (.tup (pickV xs nx))) { s with heap := h', toks := s.toks } := I.turnedNew (ch := [it]) (fun b o hb e => hk b o (fun z => hb (by rw [z]; simp)) e) (fun b hb => (show b = it by simpa using hb) ▸ hfi) hr ⟨by rw [pickV, List.length_map]; exact hzz, _, vals_pick rv nx, ht⟩
      have hr0 : H r = none := I.hok.fresh hr
      have rne : ∀ b, b < s.heap.objs.size → b ≠ r := fun b hb => Nat.ne_of_lt (Nat.lt_of_lt_of_le hb hr)
      have hS1 : h'.get? S = some (lstObj (acc.map Value.ref).toArray c) := hk _ _ hSi hS
      have hfS1 : FpOk X pins (upd H r (.tup (pickV xs nx))) S := ⟨by rw [upd_ne (rne S hSlt)]; exact hfS.1, hfS.2⟩
      have hfi1 : FpOk X pins (upd H r (.tup (pickV xs nx))) it := ⟨by rw [upd_ne (rne it hitlt)]; exact hfi.1, hfi.2⟩
      refine wpAny_bind (wpAny_updateSeq (s := { s with heap := h' }) hS1 rfl (wpAny_pure ⟨plainId_quiet F.plain_extend_loop _, ?_⟩) (by simp at hz ⊢; omega) (by show (Array.push _ _).size ≤ sizeLine + 1; rw [Array.size_push]; simp at hz ⊢; omega))
      have hS2 := Heap.get?_update_self (Obj.mapSeq (·.push (Value.ref r))) hS1 rfl
      have k2 : ∀ b o, b ≠ S → h'.get? b = some o → (h'.update S (Obj.mapSeq (·.push (.ref r)))).get? b = some o := fun b o hb e => (Heap.get?_update_other _ _ (Ne.symm hb)).trans e
      have I2 : Inv X pins σ (upd H r (.tup (pickV xs nx))) { s with heap := h'.update S (Obj.mapSeq (·.push (.ref r))), toks := s.toks } := Inv.turnedL (s := { s with heap := h', toks := s.toks }) (t' := s.toks) (ch := [S]) I1 (fun b o hb e => k2 b o (fun z => hb (by rw [z]; simp)) e) fun b hb => by
        obtain rfl : b = S := by simpa using hb
        exact hfS1
      have sz : s.heap.objs.size ≤ (h'.update S (Obj.mapSeq (·.push (.ref r)))).objs.size := by
        rw [upd_size]
        obtain ⟨o, e, _⟩ := id ht
        exact Nat.le_of_lt (Nat.lt_of_le_of_lt hr (Heap.lt_size e))
      obtain ⟨c2, hS3⟩ : ∃ c2, (h'.update S (Obj.mapSeq (·.push (Value.ref r)))).get? S = some (lstObj ((acc ++ [r]).map Value.ref).toArray c2) := by
        have e : ((acc ++ [r]).map Value.ref).toArray = (acc.map Value.ref).toArray.push (.ref r) := by simp
        rw [e]
        exact ⟨_, hS2⟩
      refine ih 1 (.ref r) nx _ _ (acc ++ [r]) c2 (.inr (.inl ⟨rfl, haf⟩)) (fun l hl => hlen l (List.mem_cons_of_mem _ hl)) I2 (k2 _ _ (Ne.symm hSi) hit') ?_ hS3 hfi1 hfS1 (by simp at hz ⊢; omega) ?_
      · obtain ⟨o, e, q⟩ := hp
        exact ⟨o, k2 _ _ (Ne.symm hSp) (hk _ _ (Ne.symm hne) e), q⟩
      · intro s' new H' c' I' hS' hf' hx hx2 hpair
        refine hR s' (r :: new) H' c' I' (by rw [List.append_cons]; exact hS') hf' (fun b o e => hx b o (by rw [upd_ne (ne_of_none e hr0)]; exact e)) (fun b hb => ?_) (.cons (hx r _ upd_same) hpair)
        rw [hx2 b (Nat.lt_of_lt_of_le hb sz), upd_ne (rne b hb)]
    rcases hrem with ⟨_, h2⟩ | ⟨rfl, h2⟩ | ⟨rfl, rfl, L', h3, h4⟩
    · cases h2
    · obtain ⟨h2, h3⟩ := h2
      refine next_c hit hp hne (by simpa using h2) hzz fun h' r hr hit' ht hk => ?_
      exact turn h' r hr hit' ht hk h3
    · cases h3
      refine first_c hit hp hne hzz fun h' r hr hit' ht hk => ?_
      exact turn h' r hr hit' ht hk h4
end
/-- an untracked list of ours is tracked from now on -/
theorem inv_track {X : Cx} {pins : List (Addr × Obj)} {σ : L2.St} {H : Hp} {s : Shared} {S : Addr} {us : List Value} {out : List V} {c : Nat} (I : Inv X pins σ H s) (e : s.heap.get? S = some (lstObj us.toArray c)) (hf : FpOk X pins H S) (r : Vals out us) (hz : out.length ≤ sizeLine) : Inv X pins σ (upd H S (.lst out)) s := by
  have hn : H S = none := hf.1
  refine I.step (g' := s.gens) (t' := s.toks) (d' := s.drawn) (h' := s.heap) (ch := [S]) (fun b hb => ?_) (fun b o _ _ _ e _ => e) (fun b o _ _ _ e _ => ⟨o.slots, e⟩) (fun b o hb _ n => ?_) (fun b o _ e => ⟨o, e⟩) (fun b xs q => ?_) (fun b o u q => ?_) (fun b ps q => ⟨#[], ?_⟩) (fun m hm => hm) (fun b u q => ?_) I.bare
  · obtain rfl : b = S := by simpa using hb
    exact ⟨hf.2.2.2.1, hf.2.1, hf.2.2.2.2.1, hf.2.2.2.2.2⟩
  · rw [upd_ne (fun z => hb (by rw [z]; simp))]; exact n
  · rw [upd_ne (ne_of_none q hn)]; exact q
  · rw [upd_ne (ne_of_none q hn)]; exact q
  · rw [upd_ne (ne_of_none q hn), q]; simp
  · by_cases hb : b = S
    · subst hb
      rw [upd_same] at q
      cases q
      exact ⟨hz, us, c, r, by rw [e]⟩
    · rw [upd_ne hb] at q
      exact (I.hok b u q).stay (fun _ _ _ z => z) (fun d z => by rw [upd_ne (ne_of_none z hn)]; exact z) fun d xs z => by rw [upd_ne (ne_of_none z hn)]; exact z
/-- all that is handed out: L -/
def Enum (n r : Nat) (L : List (List Nat)) : Prop := (n < r ∧ L = []) ∨ (r ≤ n ∧ ∃ L', L = List.range r :: L' ∧ After n (List.range r) L')
def tListC (K : PySem.W.Frag) (t : TA) : TE := fun σ H Q => t σ H fun vs H1 => ∃ (l : Addr) (n : Int) (xs : List V) (L : List (List Nat)), vs = [.ref l, .int n] ∧ (SqL K H1 l xs ∨ SqT K H1 l xs) ∧ 0 ≤ n ∧ n ≤ 1000 ∧ Enum xs.length n.toNat L ∧ (∀ l ∈ L, l.length ≤ 1000) ∧ L.length ≤ sizeLine ∧
  ∀ new H2, (∀ b o, H1 b = some o → H2 b = some o) → Paired (fun (r : Addr) (l : List Nat) => H2 r = some (.tup (pickV xs l))) new L → ∀ p, H2 p = none → Q (.ref p) (upd H2 p (.lst (new.map V.ref)))
theorem vals_refs : ∀ new : List Addr, Vals (new.map V.ref) (new.map Value.ref)
  | [] => .nil
  | r :: new => .cons rfl (vals_refs new)
theorem Paired.len {α β : Type} {F : α → β → Prop} : ∀ {l₁ : List α} {l₂ : List β}, Paired F l₁ l₂ → l₁.length = l₂.length
  | _, _, .nil => rfl
  | _, _, .cons _ t => congrArg (· + 1) (Paired.len t)
section
variable {X : Cx} {t : TA} {a b : Expr} {p1 p2 pos1 pos2 : Pos} {k : Nat}
theorem pe_listC (hr : Room k X.A) (hc : X.calm = true) (hgl : Gl X "list") (hml : X.mg "list" = none) (hgc : Gl X "combinations") (hmc : X.mg "combinations" = some (.type "itertools.combinations")) (ha : PA X [a, b] t)
    (hs : starEach [a, b] X.env = (false, eval a X.env) :: starEach [b] X.env := by rfl) (hpl : (backTo pos2 (starEach [b] X.env)).any (·.1) = false := by rfl)
    (he : starEach [.Call (.Name "combinations" p2) [a, b] [] pos2] X.env = (false, eval (.Call (.Name "combinations" p2) [a, b] [] pos2) X.env) :: starEach [] X.env := by rfl) :
    PE X (.Call (.Name "list" p1) [.Call (.Name "combinations" p2) [a, b] [] pos2] [] pos1) (tListC X.K t) := by
  refine ⟨fun pins s σ H Q I h => ?_⟩
  have hh : X.A.handled = none := I.ok.hd hc
  refine wpAny_Call_Name_kw (ld_blt I hgl hml bb_list ?_)
  refine PyProof.Rows.callWith_type1 ?_ he (by rfl)
  rw [he]
  show wpAny _ _ (spliced ((false, eval (.Call (.Name "combinations" p2) [a, b] [] pos2) X.env) :: backTo pos1 (starEach [] X.env))) _ _ s
  refine Calls.spliced_cons ?_
  refine wpAny_Call_Name_kw (ld_glob I hgc hmc ?_)
  refine PyProof.Rows.callWith_type1 (thn (ha.run pos2 pins s σ H _ I h) fun us s1 ⟨vs, H1, I1, r1, q1⟩ => ?_) hs hpl
  obtain ⟨l, n, xs, L, rfl, hsq, h0, h1, hen, hlen, hz, q⟩ := q1
  obtain ⟨tk, rfl⟩ : ∃ tk, us = [Value.ref l, .int n tk] := by
    cases r1 with
    | cons r rr =>
      cases rr with
      | cons r' rr =>
        cases rr
        cases r
        obtain ⟨tk, rfl⟩ := (show ∃ t, _ = Value.int n t from r')
        exact ⟨tk, rfl⟩
  obtain ⟨T, o, items, m, hT, ho, hoc, hod, rv, hzx⟩ : ∃ (T : String) (o : Obj) (items : List Value) (m : Nat), (T = "list" ∨ T = "tuple") ∧ s1.heap.get? l = some o ∧ o.cls = .type T ∧ o.data = .seq items.toArray m ∧ Vals xs items ∧ xs.length ≤ sizeLine := by
    rcases hsq with hq | hq
    · obtain ⟨its, r', pl, hz⟩ := I1.list hq
      obtain ⟨o, ho, hc, n, hd⟩ := pl.isList
      exact ⟨"list", o, its, n, .inl rfl, ho, hc, hd, r', hz⟩
    · obtain ⟨its, r', pl, hz⟩ := I1.tuple hq
      obtain ⟨o, ho, hc, n, hd⟩ := pl
      exact ⟨"tuple", o, its, n, .inr rfl, ho, hc, hd, r', hz⟩
  have hlx : items.length = xs.length := rv.length.symm
  refine call_c hT ho hoc hod h0 h1 (by rw [List.size_toArray, hlx]; exact hzx) fun h' it pool hit hpool hne hc0 hpt hk => ?_
  have I2 : Inv X pins σ H1 { s1 with heap := h' } := I1.kept (t' := s1.toks) hk
  have fit : FpOk X pins H1 it := I1.fpOk hit (I1.hok.fresh hit)
  refine Calls.spliced_nil ?_
  -- the list
  generalize hs2 : ({ s1 with heap := h' } : Shared) = s2 at I2 ⊢
  have h2 : s2.heap = h' := by rw [← hs2]
  rw [← h2] at hc0 hpt
  have itlt : it < s2.heap.objs.size := Heap.lt_size hc0
  have polt : pool < s2.heap.objs.size := by
    obtain ⟨o, e, _⟩ := id hpt
    exact Heap.lt_size e
  have hTy : ∀ {h : Heap}, (∀ b o, s2.heap.get? b = some o → h.get? b = some o) → ({ s2 with heap := h } : Shared).TypeIs (.ref it) "itertools.combinations" := fun {h} k => ⟨_, k _ _ hc0, rfl⟩
  refine callType_codes (Q₁ := fun obj s₁ => obj = .ref s2.heap.objs.size ∧ s₁ = { s2 with heap := s2.heap.push { cls := .type "list", data := .seq #[] } }) F.called_list (F.typeCall_list_1 _) F.entry_list_init
    (code_list_new _ ⟨rfl, rfl⟩) fun obj s₁ h₁ => ?_
  obtain ⟨rfl, rfl⟩ := h₁
  have hS : (s2.heap.push { cls := .type "list", data := .seq #[] }).get? s2.heap.objs.size = some { cls := .type "list", data := .seq #[] } := Heap.get?_push_size _ rfl
  refine ⟨⟨_, hS, rfl⟩, F.args_list_init_2 _ _, ?_⟩
  show wpAny _ X.A.in1.in1 (do let old ← Builtin.List.listItems (.ref s2.heap.objs.size); Builtin.List.listUpdate (.ref s2.heap.objs.size) (fun _ => #[]); letGo old.toList.reverse; Builtin.List.listExtendWith (.ref s2.heap.objs.size) (.ref it) .none) _ _ _
  refine wpAny_bind ?_
  unfold Builtin.List.listItems
  refine wpAny_bind (wpAny_seqItems hS rfl (wpAny_pure ?_))
  show wpAny _ X.A.in1.in1 (updateSeq s2.heap.objs.size (fun _ => #[]) >>= fun _ => letGo (#[] : Array Value).toList.reverse >>= fun _ => Builtin.List.listExtendWith (.ref s2.heap.objs.size) (.ref it) .none) _ _ _
  refine wpAny_bind (wpAny_updateSeq hS rfl ?_)
  have hS2 := Heap.get?_update_self (Obj.mapSeq (fun _ => (#[] : Array Value))) hS rfl
  refine wpAny_bind (wpAny_letGo ?_)
  unfold Builtin.List.listExtendWith
  have up : ∀ (h : Heap) (f : Obj → Obj), (∀ b o, s2.heap.get? b = some o → h.get? b = some o) → ∀ b o, s2.heap.get? b = some o → (h.update s2.heap.objs.size f).get? b = some o := fun h f q b o e =>
    (Heap.get?_update_other _ _ (Ne.symm (Nat.ne_of_lt (Heap.lt_size e)))).trans (q b o e)
  have k1 : ∀ b o, s2.heap.get? b = some o → (s2.heap.push { cls := .type "list", data := .seq #[] }).get? b = some o := fun b o e => Heap.get?_push_of_some _ e
  have k2 := up _ (Obj.mapSeq (fun _ => (#[] : Array Value))) k1
  refine wpAny_bind (wpAny_typeOf (hTy k2) ?_)
  have g1 : Builtin.List.listSameRef (.ref s2.heap.objs.size) (.ref it) = false := by simp [Builtin.List.listSameRef, Nat.ne_of_gt itlt]
  have g2 : (Value.type "itertools.combinations" == Value.type "list") = false := by decide
  have g3 : (Value.type "itertools.combinations" == Value.type "tuple") = false := by decide
  simp only [g1, g2, g3, Bool.or_false, Bool.false_eq_true, if_false]
  refine wpAny_bind (iter_c (s := { s2 with heap := _ }) (k2 _ _ hc0) ?_)
  refine wpAny_bind (wpAny_holding ?_)
  unfold Builtin.List.listLengthHint
  refine wpAny_bind (wpAny_specialOf (hTy k2) nolen_c ?_)
  show wpAny _ X.A.in1.in1 (specialOf (Value.ref it) (Str.ofString "__length_hint__") >>= _) _ _ _
  refine wpAny_bind (wpAny_specialOf (hTy k2) nohint_c ?_)
  refine wpAny_pure ?_
  show wpAny _ X.A.in1.in1 (rule "list.extend.makes-room" >>= fun _ => Builtin.List.listTouch (.ref s2.heap.objs.size) >>= fun _ =>
    again (.builtin "list.extend.loop" ⟨[.ref s2.heap.objs.size, .ref it, .none], []⟩)) _ _ _
  refine wpAny_bind (wpAny_rule ?_)
  refine wpAny_bind ?_
  show wpAny _ X.A.in1.in1 (updateSeq s2.heap.objs.size (·.push .none) >>= fun _ => updateSeq s2.heap.objs.size (·.pop)) _ _ _
  refine wpAny_bind (wpAny_updateSeq hS2 rfl ?_)
  have hS3 := Heap.get?_update_self (Obj.mapSeq (·.push Value.none)) hS2 rfl
  refine wpAny_updateSeq (hz := by seq_fits) hS3 rfl ?_
  have hS4 := Heap.get?_update_self (Obj.mapSeq (·.pop)) hS3 rfl
  have k4 := up _ (Obj.mapSeq (·.pop)) (up _ (Obj.mapSeq (·.push Value.none)) k2)
  refine wpAny_pure ⟨plainId_quiet F.plain_extend_loop _, ?_⟩
  have rem : Rem items.length (if n.toNat > items.toArray.size then 2 else 0) .none (List.range n.toNat) L := by
    rw [List.size_toArray, hlx]
    rcases hen with ⟨hlt, rfl⟩ | ⟨hle, L', rfl, haf⟩
    · rw [if_pos hlt]; exact .inl ⟨rfl, rfl⟩
    · rw [if_neg (by omega)]; exact .inr (.inr ⟨rfl, rfl, L', rfl, haf⟩)
  have fix : ∀ {h : Heap} {o : Obj}, h.get? s2.heap.objs.size = some o → o.cls = .type "list" → o.dict = none → o.slots = #[] → (∃ c, o.data = .seq #[] c) → ∃ c4, h.get? s2.heap.objs.size = some (lstObj (([] : List Addr).map Value.ref).toArray c4) := fun {h o} e e1 e2 e3 e4 => by
    obtain ⟨oc, od, odt, osl⟩ := o
    obtain ⟨c, rfl⟩ : ∃ c, odt = .seq #[] c := e4
    obtain rfl : oc = .type "list" := e1
    obtain rfl : od = none := e2
    obtain rfl : osl = #[] := e3
    exact ⟨c, e⟩
  obtain ⟨c4, hS5⟩ := fix hS4 rfl rfl rfl ⟨_, rfl⟩
  refine drain_c (X := X) (pins := pins) (σ := σ) (A := X.A.in1) rv hh hne (Nat.ne_of_gt itlt) (Nat.ne_of_gt polt) L _ _ _ _ H1 [] c4 rem hlen (I2.kept (t' := s2.toks) k4) (k4 _ _ hc0) ?_ hS5 fit (I2.fpOk (Nat.le_refl _) (I2.hok.fresh (Nat.le_refl _))) (by simpa using hz) ?_
  · obtain ⟨o, e, q⟩ := hpt
    exact ⟨o, k4 _ _ e, q⟩
  · intro s' new H' c' I' hS' hf' hx _ hp
    refine ⟨rfl, .ref s2.heap.objs.size, _, inv_track I' hS' hf' (vals_refs _) (by rw [List.length_map, List.nil_append, Paired.len hp]; exact hz), rfl, ?_⟩
    exact q new H' hx hp _ hf'.1
end
end Cmb
/-! P3gg: all choices of r things, in order. -/
namespace Cmb
def subs {α : Type} : List α → Nat → List (List α)
  | _, 0 => [[]]
  | [], _ + 1 => []
  | x :: xs, r + 1 => (subs xs r).map (x :: ·) ++ subs xs (r + 1)
theorem subs_zero {α : Type} (xs : List α) : subs xs 0 = [[]] := by cases xs <;> rfl
theorem subs_len {α : Type} : ∀ (xs : List α) (r : Nat) (l : List α), l ∈ subs xs r → l.length = r
  | xs, 0, l, h => by rw [subs_zero] at h; simp at h; simp [h]
  | [], r + 1, l, h => by simp [subs] at h
  | x :: xs, r + 1, l, h => by
    rw [subs] at h
    rcases List.mem_append.mp h with h | h
    · obtain ⟨l', h', rfl⟩ := List.mem_map.mp h
      simp [subs_len xs r l' h']
    · exact subs_len xs (r + 1) l h
theorem subs_few {α : Type} : ∀ (xs : List α) (r : Nat), xs.length < r → subs xs r = []
  | xs, 0, h => by omega
  | [], r + 1, h => rfl
  | x :: xs, r + 1, h => by
    rw [subs, subs_few xs r (by simpa using h), subs_few xs (r + 1) (by simp at h; omega)]
    rfl
theorem subs_map {α β : Type} (f : α → β) : ∀ (xs : List α) (r : Nat), subs (xs.map f) r = (subs xs r).map (List.map f)
  | xs, 0 => by rw [subs_zero, subs_zero]; rfl
  | [], r + 1 => rfl
  | x :: xs, r + 1 => by
    rw [List.map_cons, subs, subs, subs_map f xs r, subs_map f xs (r + 1), List.map_append, List.map_map, List.map_map]
    rfl
/-- at a list's head: its tail steps, or the head does -/
theorem succC_cons (n x : Nat) (xs : List Nat) : succC n (x :: xs) = match succC n xs with
    | some ys => some (x :: ys)
    | none => if x = n - (xs.length + 1) then none else some (List.range' (x + 1) (xs.length + 1)) := by
  unfold succC
  have e1 : (List.range (x :: xs).length).reverse = ((List.range xs.length).reverse.map (· + 1)) ++ [0] := by
    rw [List.length_cons, List.range_succ_eq_map, List.reverse_cons, List.map_reverse]
  rw [e1, List.find?_append, List.find?_map]
  have e2 : ((fun i => (x :: xs).getD i 0 != i + n - (x :: xs).length) ∘ (· + 1)) = fun i => xs.getD i 0 != i + n - xs.length := by
    funext i
    have e3 : i + 1 + n - (xs.length + 1) = i + n - xs.length := by omega
    simp [e3]
  rw [e2]
  cases hf : (List.range xs.length).reverse.find? (fun i => xs.getD i 0 != i + n - xs.length) with
  | some i =>
    simp only [Option.map_some, Option.some_or]
    have e3 : xs.length + 1 - (i + 1) = xs.length - i := by omega
    simp [e3]
  | none =>
    simp only [Option.map_none, Option.none_or, List.find?_cons, List.find?_nil, List.getD_cons_zero, Nat.zero_add, List.length_cons]
    by_cases h : x = n - (xs.length + 1)
    · simp [h]
    · have h2 : (x != n - (xs.length + 1)) = true := by simpa using h
      rw [h2, if_neg h]
      simp [List.range'_eq_map_range]
def Tail (n r x : Nat) (M : List (List Nat)) : Prop := (x ≠ n - (r + 1) ∧ ∃ M', M = List.range' (x + 1) (r + 1) :: M' ∧ After n (List.range' (x + 1) (r + 1)) M') ∨ (x = n - (r + 1) ∧ M = [])
theorem after_lift {n r x : Nat} {M : List (List Nat)} (t : Tail n r x M) : ∀ (L : List (List Nat)) (a : List Nat), (∀ l ∈ a :: L, l.length = r) → After n a L → After n (x :: a) (L.map (x :: ·) ++ M)
  | [], a, hl, h => by
    have ha : a.length = r := hl a (by simp)
    have h : succC n a = none := h
    rw [List.map_nil, List.nil_append]
    rcases t with ⟨h1, M', rfl, h2⟩ | ⟨h1, rfl⟩
    · exact ⟨by rw [succC_cons, h, ha]; simp [h1], h2⟩
    · show succC n (x :: a) = none
      rw [succC_cons, h, ha]; simp [h1]
  | b :: L, a, hl, h => by
    obtain ⟨h1, h2⟩ := h
    exact ⟨by rw [succC_cons, h1], after_lift t L b (fun l hm => hl l (List.mem_cons_of_mem _ hm)) h2⟩
theorem subs_run (n : Nat) : ∀ (k lo r : Nat), lo + k = n → r ≤ k → ∃ L, subs (List.range' lo k) r = List.range' lo r :: L ∧ After n (List.range' lo r) L
  | k, lo, 0, h, _ => ⟨[], by rw [subs_zero]; rfl, rfl⟩
  | 0, lo, r + 1, h, h2 => by omega
  | k + 1, lo, r + 1, h, h2 => by
    rw [List.range'_succ, subs]
    obtain ⟨L1, e1, a1⟩ := subs_run n k (lo + 1) r (by omega) (by omega)
    rw [e1, List.map_cons, List.cons_append]
    have hl : ∀ l ∈ List.range' (lo + 1) r :: L1, l.length = r := fun l hm => by
      rw [← e1] at hm
      exact subs_len _ _ _ hm
    have e3 : lo :: List.range' (lo + 1) r = List.range' lo (r + 1) := by rw [List.range'_succ]
    have tl : Tail n r lo (subs (List.range' (lo + 1) k) (r + 1)) := by
      by_cases hk : r + 1 ≤ k
      · obtain ⟨L2, e2, a2⟩ := subs_run n k (lo + 1) (r + 1) (by omega) hk
        exact .inl ⟨by omega, L2, e2, a2⟩
      · exact .inr ⟨by omega, subs_few _ _ (by rw [List.length_range']; omega)⟩
    have := after_lift tl L1 _ hl a1
    rw [e3] at this
    rw [e3]
    exact ⟨_, rfl, this⟩
theorem enum_subs (n r : Nat) : Enum n r (subs (List.range n) r) := by
  by_cases h : r ≤ n
  · obtain ⟨L, e, a⟩ := subs_run n n 0 r (by omega) h
    rw [← List.range_eq_range', ← List.range_eq_range'] at e
    rw [← List.range_eq_range'] at a
    exact .inr ⟨h, L, e, a⟩
  · exact .inl ⟨by omega, subs_few _ _ (by rw [List.length_range]; omega)⟩
theorem subs_pick {α : Type} (d : α) (xs : List α) (r : Nat) : (subs (List.range xs.length) r).map (fun l => l.map fun i => xs.getD i d) = subs xs r := by
  rw [← subs_map]
  congr 1
  apply List.ext_getElem?
  intro j
  by_cases hj : j < xs.length
  · simp [hj]
  · simp [hj]
end Cmb
namespace L2.P3
open PySem PySem.Spec PyProof.Rows L2 Cmb
section
variable {bk : BagKind} {K : PySem.W.Frag} {M : Am} {S : Store} {H H2 : Hp}
/-- things more are tracked -/
theorem Sto.ext (s : Sto K bk M S H) (x : ∀ b o, H b = some o → H2 b = some o) : Step M H M H2 ∧ Sto K bk M S H2 := by
  have st : Step M H M H2 := ⟨⟨[], by simp⟩, ⟨[], by simp⟩, rfl, fun b o _ _ _ e => x b o e, fun b ⟨ps, e, r⟩ => ⟨ps, x b _ e, r⟩, fun b hb => by
    cases e : H b with
    | none => exact absurd e hb
    | some o => rw [x b o e]; simp, fun b h h' => absurd h h'⟩
  refine ⟨st, ⟨s.st.len, s.st.lenk, s.st.nd, fun n xs e => ?_⟩, ?_, s.apart, fun Q hQ => st.tab Q (s.tabs Q hQ)⟩
  · obtain ⟨a, c, o, e1, e2, e3, ce⟩ := s.st.at_ n xs e
    exact ⟨a, c, o, e1, e2, x a o e3, ce.step s st⟩
  · have hb := s.bag
    cases hM : M.bag with
    | none => trivial
    | some own =>
      rw [hM] at hb
      obtain ⟨h1, h2, cs, h3, h4, h5⟩ := hb
      exact ⟨h1, h2, cs, h3, h4, fun n a e => let ⟨c, e1, e2⟩ := h5 n a e; ⟨c, e1, x a _ e2⟩⟩
theorem rps_pick {r : Nat} {xs : List PV} {vs : List V} (rs : Rps K r M H xs vs) : ∀ ix : List Nat, Rps K r M H (ix.map fun i => xs.getD i .non) (pickV vs ix)
  | [] => .nil
  | i :: ix => by
    refine .cons ?_ (rps_pick rs ix)
    cases e : xs[i]? with
    | some x =>
      obtain ⟨v, ev, rv⟩ := rs.get e
      simp [List.getD, e, ev]
      exact rv
    | none =>
      have : vs[i]? = none := by
        rw [List.getElem?_eq_none_iff] at e ⊢
        rw [rs.length]; exact e
      simp [List.getD, e, this]
      exact to_non
theorem rps_tups {r : Nat} {xs : List PV} {vs : List V} (rs : Rps K r M H xs vs) : ∀ {new : List Addr} {L : List (List Nat)}, Paired (fun (r : Addr) (l : List Nat) => H r = some (.tup (pickV vs l))) new L →
    Rps K r M H (L.map fun l => PV.tup (l.map fun i => xs.getD i .non)) (new.map V.ref)
  | _, _, .nil => .nil
  | _, _, .cons h t => .cons (to_tup (SqT.of h) (rps_pick rs _)) (rps_tups rs t)
end
/-- list(combinations(a, n)) -/
def pListC (f g : PTE) : PTE := fun E ρ S Q => f E ρ S fun x S1 => g E ρ S1 fun y S2 => onO (its S2 x) fun xs => onInt y fun n => (0 ≤ n ∧ n ≤ 1000) ∧ (subs xs n.toNat).length ≤ 16777216 ∧ Q (.lst S2.length) (S2 ++ [(subs xs n.toNat).map .tup])
instance {f g : PTE} [MoE f] [MoE g] : MoE (pListC f g) := ⟨fun h q => MoE.mo (f := f) (fun x _ q => MoE.mo (f := g) (fun y _ q => onO_mo (fun _ q => onInt_mo (fun _ q => ⟨q.1, q.2.1, h _ _ q.2.2⟩) q) q) q) q⟩
theorem q_listC {bk : BagKind} {X : Cx} {h h2 : PTE} {a b : Expr} {p1 p2 pos1 pos2 : Pos} {k : Nat} (hr : Room k X.A) (hc : X.calm = true) (hgl : Gl X "list") (hml : X.mg "list" = none) (hgc : Gl X "combinations") (hmc : X.mg "combinations" = some (.type "itertools.combinations")) (ha : QE bk X a h) (hb : QE bk X b h2)
    (hs : starEach [a, b] X.env = (false, eval a X.env) :: starEach [b] X.env := by rfl) (hs2 : starEach (b :: []) X.env = (false, eval b X.env) :: starEach [] X.env := by rfl) (hpl : (backTo pos2 (starEach [b] X.env)).any (·.1) = false := by rfl)
    (he : starEach [.Call (.Name "combinations" p2) [a, b] [] pos2] X.env = (false, eval (.Call (.Name "combinations" p2) [a, b] [] pos2) X.env) :: starEach [] X.env := by rfl) :
    QE bk X (.Call (.Name "list" p1) [.Call (.Name "combinations" p2) [a, b] [] pos2] [] pos1) (pListC h h2) := by
  obtain ⟨ta, pa, wa⟩ := ha.ex
  obtain ⟨tb, pb, wb⟩ := hb.ex
  refine ⟨_, pe_listC hr hc hgl hml hgc hmc (pa_cons pa (pa_cons pb pa_nil hs2) hs) hs hpl he, fun E M ρ S σ H Q Q' rel q k => ?_⟩
  refine wa E M ρ S σ H _ _ rel q fun M1 S1 H1 x v t1 s1 r1 q1 => ?_
  refine wb E M1 ρ S1 σ H1 _ _ (rel.step t1 s1) q1 fun M2 S2 H2 y w t2 s2 r2 q2 => ?_
  obtain ⟨xs, ex, q2⟩ := onO_ex q2
  obtain ⟨n, rfl, ⟨h0, h1⟩, hz, q2⟩ := onInt_ex q2
  have r1' := r1.step s1 t2
  obtain ⟨a, vs, rfl, qx, rxs⟩ := its_side s2 r1' ex
  rw [Rp] at r2
  subst r2
  have hlx : vs.length = xs.length := rxs.length
  have hsub : (subs (List.range vs.length) n.toNat).length = (subs xs n.toNat).length := by rw [hlx, ← subs_pick .non xs n.toNat, List.length_map]
  refine ⟨a, n, vs, subs (List.range vs.length) n.toNat, rfl, ?_, h0, h1, enum_subs _ _, fun l hl => ?_, by rw [hsub]; exact Nat.le_trans hz (by decide), fun new H3 hx hp p hpn => ?_⟩
  · cases hT : isTup x
    · rw [hT] at qx; exact .inl qx
    · rw [hT] at qx; exact .inr qx
  · rw [subs_len _ _ _ hl]; omega
  · obtain ⟨t3, s3⟩ := s2.ext hx
    have rt := rps_tups (rxs.step s2 t3) hp
    have e : (subs (List.range vs.length) n.toNat).map (fun l => PV.tup (l.map fun i => xs.getD i .non)) = (subs xs n.toNat).map .tup := by
      rw [hlx, ← subs_pick .non xs n.toNat, List.map_map]
      rfl
    rw [e] at rt
    exact k _ _ _ _ _ ((t1.trans t2).trans (t3.trans (Step.push hpn))) (s3.push hpn rt) (to_lst s3.new_at) q2
end L2.P3
/-! P3ha: circuits, lots in their order, plainly. -/
namespace L2.P3
open Cmb
/-! ### circuits -/
def prodF (i : Int) (p : Int) (j : Int) : Int := if j ≠ i then p * (i - j) else p
/-- the product of i less each of the others -/
def prodI (i : Int) (l : List Int) : Int := l.foldl (prodF i) 1
def lcmF (c p : Int) : Int := c / (Int.gcd c p : Int) * (p.natAbs : Int)
def gcdF (d w : Int) : Int := (Int.gcd d w : Int)
def circP (l : List Int) : List Int := l.map fun i => prodI i l
def circC (l : List Int) : Int := (circP l).foldl lcmF 1
def circW (l : List Int) : List Int := (circP l).map fun p => (circC l).fdiv p
def circD (l : List Int) : Int := (circW l).foldl gcdF 0
def circS (l : List Int) : Int := if 0 < (circW l).headD 0 then 1 else -1
def circ (l : List Int) : List Int := (circW l).map fun w => (circS l * w).fdiv (circD l)
theorem foldl_inv {α β : Type} {f : β → α → β} (P : β → Prop) : ∀ (l : List α) {b : β}, P b → (∀ b a, a ∈ l → P b → P (f b a)) → P (l.foldl f b)
  | [], b, h, _ => h
  | a :: l, b, h, hs => foldl_inv P l (hs b a List.mem_cons_self h) fun b a' ha => hs b a' (List.mem_cons_of_mem _ ha)
theorem prodI_ne (i : Int) (l : List Int) : prodI i l ≠ 0 := by
  refine foldl_inv (fun p => p ≠ 0) l (by decide) fun b a _ h => ?_
  unfold prodF
  split
  · exact Int.mul_ne_zero h (by omega)
  · exact h
theorem gcd_pos_l {c : Int} (p : Int) (h : 0 < c) : 0 < ((Int.gcd c p : Nat) : Int) := by
  have : Int.gcd c p ≠ 0 := fun z => by have := (Int.gcd_eq_zero_iff.mp z).1; omega
  omega
theorem lcmF_pos {c p : Int} (hc : 0 < c) (hp : p ≠ 0) : 0 < lcmF c p := by
  have h1 := gcd_pos_l p hc
  have h2 : 0 < c / ((Int.gcd c p : Nat) : Int) := Int.ediv_pos_of_pos_of_dvd hc (by omega) (Int.gcd_dvd_left ..)
  unfold lcmF
  exact Int.mul_pos h2 (by omega)
theorem lcmF_left {c p : Int} : c ∣ lcmF c p := by
  obtain ⟨k, hk⟩ : ((Int.gcd c p : Nat) : Int) ∣ (p.natAbs : Int) := Int.dvd_natAbs.mpr (Int.gcd_dvd_right ..)
  refine ⟨k, ?_⟩
  unfold lcmF
  rw [hk, ← Int.mul_assoc, Int.ediv_mul_cancel (Int.gcd_dvd_left ..)]
theorem lcmF_right {c p : Int} : p ∣ lcmF c p := by
  unfold lcmF
  exact Int.dvd_trans Int.dvd_natAbs_self (Int.dvd_mul_left ..)
theorem lcmF_law (c p : Int) : c * (p.natAbs : Int) / ((Int.gcd c p : Nat) : Int) = lcmF c p := by
  unfold lcmF
  rw [Int.mul_comm c, Int.mul_ediv_assoc _ (Int.gcd_dvd_left ..), Int.mul_comm]
theorem lcmF_sz {c p : Int} {a b : Nat} (h : Sz a c) (h' : Sz b p) : Sz (a + b) (lcmF c p) := by
  unfold lcmF
  refine Sz.mul ?_ ?_
  · exact h.ediv
  · unfold Sz at *
    simpa using h'
theorem lcms_pos {ps : List Int} (h : ∀ p ∈ ps, p ≠ 0) : 0 < ps.foldl lcmF 1 :=
  foldl_inv (fun c => 0 < c) ps (by decide) fun b a ha hb => lcmF_pos hb (h a ha)
theorem lcms_up : ∀ (ps : List Int) (c : Int), c ∣ ps.foldl lcmF c
  | [], c => Int.dvd_refl c
  | p :: ps, c => Int.dvd_trans lcmF_left (lcms_up ps _)
theorem lcms_dvd : ∀ (ps : List Int) (c p : Int), p ∈ ps → p ∣ ps.foldl lcmF c
  | q :: ps, c, p, h => by
    rcases List.mem_cons.mp h with rfl | h
    · exact Int.dvd_trans lcmF_right (lcms_up ps _)
    · exact lcms_dvd ps _ p h
theorem circC_pos (l : List Int) : 0 < circC l := lcms_pos fun p hp => by
  obtain ⟨i, _, rfl⟩ := List.mem_map.mp hp
  exact prodI_ne i l
theorem circC_dvd {l : List Int} {p : Int} (h : p ∈ circP l) : p ∣ circC l := lcms_dvd _ _ _ h
theorem circP_ne {l : List Int} {p : Int} (h : p ∈ circP l) : p ≠ 0 := by
  obtain ⟨i, _, rfl⟩ := List.mem_map.mp h
  exact prodI_ne i l
theorem fdiv_dvd {a b : Int} (h : b ∣ a) : a.fdiv b = a / b := Int.fdiv_eq_ediv_of_dvd h
theorem circW_ne {l : List Int} {w : Int} (h : w ∈ circW l) : w ≠ 0 := by
  obtain ⟨p, hp, rfl⟩ := List.mem_map.mp h
  obtain ⟨k, hk⟩ := circC_dvd hp
  have hpos := circC_pos l
  rw [fdiv_dvd (circC_dvd hp), hk, Int.mul_ediv_cancel_left _ (circP_ne hp)]
  rintro rfl
  rw [Int.mul_zero] at hk
  omega
theorem gcds_up : ∀ (ws : List Int) (d : Int), ws.foldl gcdF d ∣ d
  | [], d => Int.dvd_refl d
  | w :: ws, d => Int.dvd_trans (gcds_up ws _) (Int.gcd_dvd_left ..)
theorem gcds_dvd : ∀ (ws : List Int) (d w : Int), w ∈ ws → ws.foldl gcdF d ∣ w
  | v :: ws, d, w, h => by
    rcases List.mem_cons.mp h with rfl | h
    · exact Int.dvd_trans (gcds_up ws _) (Int.gcd_dvd_right ..)
    · exact gcds_dvd ws _ w h
theorem gcds_nn (ws : List Int) : 0 ≤ ws.foldl gcdF 0 := foldl_inv (fun d => 0 ≤ d) ws (by decide) fun b a _ _ => by unfold gcdF; omega
theorem circD_dvd {l : List Int} {w : Int} (h : w ∈ circW l) : circD l ∣ w := gcds_dvd _ _ _ h
theorem circD_pos {l : List Int} (h : l ≠ []) : 0 < circD l := by
  obtain ⟨i, l', rfl⟩ := List.exists_cons_of_ne_nil h
  have hm : (circC (i :: l')).fdiv (prodI i (i :: l')) ∈ circW (i :: l') := by simp [circW, circP]
  have h1 : 0 ≤ circD (i :: l') := gcds_nn _
  have h2 := circD_dvd hm
  have h3 := circW_ne hm
  rcases Int.lt_or_eq_of_le h1 with h | h
  · exact h
  · rw [← h] at h2
    exact absurd (Int.zero_dvd.mp h2) h3
/-- the law's way to a part -/
theorem part_law {c p : Int} (h : p ∣ c) (h0 : p ≠ 0) : (if 0 < p then c / p else 0 - c / (0 - p)) = c.fdiv p := by
  rw [fdiv_dvd h]
  split
  · rfl
  · obtain ⟨k, rfl⟩ := h
    rw [Int.mul_ediv_cancel_left _ h0, show p * k = (0 - p) * (-k) by rw [Int.zero_sub, Int.neg_mul_neg], Int.mul_ediv_cancel_left _ (by omega)]
    omega
theorem sign_law {w d s : Int} (h : d ∣ w) (h0 : d ≠ 0) (hs : s = 1 ∨ s = -1) : (s * w).fdiv d = w.fdiv (s * d) := by
  obtain ⟨k, rfl⟩ := h
  rw [fdiv_dvd ⟨s * k, by rw [← Int.mul_assoc, Int.mul_comm s d, Int.mul_assoc]⟩, show s * (d * k) = d * (s * k) by rw [← Int.mul_assoc, Int.mul_comm s d, Int.mul_assoc], Int.mul_ediv_cancel_left _ h0]
  rcases hs with rfl | rfl
  · rw [Int.one_mul, Int.one_mul, fdiv_dvd ⟨k, rfl⟩, Int.mul_ediv_cancel_left _ h0]
  · rw [show d * k = (-1 * d) * (-k) by rw [Int.neg_one_mul, Int.neg_mul_neg], fdiv_dvd ⟨-k, rfl⟩, Int.mul_ediv_cancel_left _ (by omega)]
    omega
theorem lcms_sz {b : Nat} : ∀ (ps : List Int) {a : Nat} {c : Int}, Sz a c → (∀ p ∈ ps, Sz b p) → Sz (a + b * ps.length) (ps.foldl lcmF c)
  | [], a, c, h, _ => h
  | p :: ps, a, c, h, hp => by
    have := lcms_sz ps (lcmF_sz h (hp p List.mem_cons_self)) fun q hq => hp q (List.mem_cons_of_mem _ hq)
    rw [List.length_cons]
    exact this.mono (by rw [Nat.mul_add, Nat.mul_one]; omega)
theorem Sz.of_dvd {a : Nat} {d x : Int} (h : Sz a x) (hd : d ∣ x) (hx : x ≠ 0) : Sz a d := by
  unfold Sz at *
  have := Nat.le_of_dvd (by omega) (Int.natAbs_dvd_natAbs.mpr hd)
  omega
theorem prodI_sz {a : Nat} {i : Int} {l : List Int} (h : ∀ j ∈ l, Sz a (i - j)) : Sz (a * l.length + 1) (prodI i l) := by
  have go : ∀ (l : List Int) {c : Nat} {p : Int}, Sz c p → (∀ j ∈ l, Sz a (i - j)) → Sz (c + a * l.length) (l.foldl (prodF i) p) := by
    intro l
    induction l with
    | nil => intro c p h _; exact h
    | cons j l ih =>
      intro c p h hj
      have h1 : Sz (c + a) (prodF i p j) := by
        unfold prodF
        split
        · exact h.mul (hj j List.mem_cons_self)
        · exact h.mono (by omega)
      have := ih h1 fun q hq => hj q (List.mem_cons_of_mem _ hq)
      rw [List.length_cons]
      exact this.mono (by rw [Nat.mul_add, Nat.mul_one]; omega)
  exact (go l (c := 1) (p := 1) (by unfold Sz; decide) h).mono (by omega)
theorem circP_sz {a : Nat} {l : List Int} (h : ∀ i ∈ l, ∀ j ∈ l, Sz a (i - j)) {p : Int} (hp : p ∈ circP l) : Sz (a * l.length + 1) p := by
  obtain ⟨i, hi, rfl⟩ := List.mem_map.mp hp
  exact prodI_sz (h i hi)
/-- how great the numbers of a circuit come -/
def circB (a m : Nat) : Nat := 1 + (a * m + 1) * m
theorem circC_sz {a : Nat} {l : List Int} (h : ∀ i ∈ l, ∀ j ∈ l, Sz a (i - j)) : Sz (circB a l.length) (circC l) := by
  have := lcms_sz (b := a * l.length + 1) (circP l) (a := 1) (c := 1) (by unfold Sz; decide) fun p hp => circP_sz h hp
  rw [show (circP l).length = l.length by simp [circP]] at this
  exact this
theorem circW_sz {a : Nat} {l : List Int} (h : ∀ i ∈ l, ∀ j ∈ l, Sz a (i - j)) {w : Int} (hw : w ∈ circW l) : Sz (circB a l.length) w := by
  obtain ⟨p, hp, rfl⟩ := List.mem_map.mp hw
  rw [fdiv_dvd (circC_dvd hp)]
  exact (circC_sz h).ediv
theorem circD_sz {a : Nat} {l : List Int} (h : ∀ i ∈ l, ∀ j ∈ l, Sz a (i - j)) (hl : l ≠ []) : Sz (circB a l.length) (circD l) := by
  obtain ⟨i, l', rfl⟩ := List.exists_cons_of_ne_nil hl
  have hm : (circC (i :: l')).fdiv (prodI i (i :: l')) ∈ circW (i :: l') := by simp [circW, circP]
  exact (circW_sz h hm).of_dvd (circD_dvd hm) (circW_ne hm)
theorem circS_or (l : List Int) : circS l = 1 ∨ circS l = -1 := by unfold circS; split <;> simp
theorem circ_len (l : List Int) : (circ l).length = l.length := by simp [circ, circW, circP]
theorem circ_sz {a : Nat} {l : List Int} (h : ∀ i ∈ l, ∀ j ∈ l, Sz a (i - j)) {w : Int} (hw : w ∈ circ l) : Sz (circB a l.length) w := by
  obtain ⟨p, hp, rfl⟩ := List.mem_map.mp hw
  have hd : circD l ∣ circS l * p := Int.dvd_trans (circD_dvd hp) (Int.dvd_mul_left ..)
  rw [fdiv_dvd hd]
  refine Sz.ediv ?_
  have := circW_sz h hp
  rcases circS_or l with e | e
  · rw [e, Int.one_mul]; exact this
  · rw [e, Int.neg_one_mul]; unfold Sz at *; rwa [Int.natAbs_neg]
theorem subs_count {α : Type} : ∀ (xs : List α) (r : Nat), (subs xs r).length ≤ 2 ^ xs.length
  | xs, 0 => by rw [subs_zero]; exact Nat.one_le_two_pow
  | [], r + 1 => by simp [subs]
  | x :: xs, r + 1 => by
    have h1 := subs_count xs r
    have h2 := subs_count xs (r + 1)
    rw [subs, List.length_append, List.length_map, List.length_cons, Nat.pow_succ]
    omega
def numOn (figs l w : List Int) : Int := (l.zip w).foldl (fun s p => s + p.2 * figs.getD p.1.toNat 0) 0
def absSum (l : List Int) : Int := l.foldl (fun s w => s + (w.natAbs : Int)) 0
def mostOf (w : List Int) : Int := absSum w / 2
/-- these lines fit: the sum of figures times weights is less than the most -/
def fitsL (figs l : List Int) : Bool := decide (((numOn figs l (circ l)).natAbs : Int) < mostOf (circ l))
def fits (figs ls : List Int) (k : Nat) : Bool := (subs ls (k + 1)).all (fitsL figs)
theorem circ_law (l : List Int) : circ l = (circW l).map fun w => w.fdiv (circS l * circD l) := by
  by_cases hl : l = []
  · subst hl; rfl
  · unfold circ
    exact List.map_congr_left fun w hw => sign_law (circD_dvd hw) (by have := circD_pos hl; omega) (circS_or l)
/-! ### lots in their order -/
def gtl (l : List Nat) (n : Nat) : Bool := match l.getLast? with
  | none => true
  | some m => decide (m < n)
def extL (xs : List Nat) (l : List Nat) : List (List Nat) := (xs.filter (gtl l)).map fun n => l ++ [n]
theorem subs_in {α : Type} : ∀ (xs : List α) (r : Nat) (l : List α), l ∈ subs xs r → ∀ n ∈ l, n ∈ xs
  | xs, 0, l, h, n, hn => by rw [subs_zero] at h; simp at h; subst h; cases hn
  | [], r + 1, l, h, n, hn => by simp [subs] at h
  | x :: xs, r + 1, l, h, n, hn => by
    rw [subs] at h
    rcases List.mem_append.mp h with h | h
    · obtain ⟨l', h', rfl⟩ := List.mem_map.mp h
      rcases List.mem_cons.mp hn with rfl | hn
      · exact List.mem_cons_self
      · exact List.mem_cons_of_mem _ (subs_in xs r l' h' n hn)
    · exact List.mem_cons_of_mem _ (subs_in xs (r + 1) l h n hn)
theorem gtl_cons {x : Nat} {l : List Nat} (n : Nat) (h : l ≠ []) : gtl (x :: l) n = gtl l n := by
  unfold gtl
  rw [List.getLast?_cons_of_ne_nil h] <;> rfl
theorem subs_ne {α : Type} {xs : List α} {r : Nat} {l : List α} (h : l ∈ subs xs (r + 1)) : l ≠ [] := by
  rintro rfl
  have := subs_len xs _ _ h
  simp at this
theorem gtl_skip {x : Nat} {l : List Nat} (hl : l ≠ []) (h : ∀ n ∈ l, x ≤ n) : gtl l x = false := by
  unfold gtl
  rw [List.getLast?_eq_some_getLast hl]
  have := h _ (List.getLast_mem hl)
  simp; omega
theorem flatMap_same {α β : Type} {f g : α → List β} : ∀ {l : List α}, (∀ x ∈ l, f x = g x) → l.flatMap f = l.flatMap g
  | [], _ => rfl
  | x :: l, h => by rw [List.flatMap_cons, List.flatMap_cons, h x List.mem_cons_self, flatMap_same fun y hy => h y (List.mem_cons_of_mem _ hy)]
/-- lots grow by one more at the end, in their order -/
theorem subs_ext : ∀ (xs : List Nat) (r : Nat), xs.Pairwise (· < ·) → subs xs (r + 1) = (subs xs r).flatMap (extL xs)
  | [], 0, _ => by simp [subs, extL]
  | [], r + 1, _ => by simp [subs]
  | x :: xs, 0, h => by
    have ih := subs_ext xs 0 (List.pairwise_cons.mp h).2
    rw [show subs (x :: xs) (0 + 1) = (subs xs 0).map (x :: ·) ++ subs xs (0 + 1) from rfl, ih, subs_zero, subs_zero]
    simp only [extL, List.flatMap_cons, List.flatMap_nil, List.append_nil, List.map_cons, List.map_nil]
    rw [List.filter_cons_of_pos (by simp [gtl])]
    rfl
  | x :: xs, r + 1, h => by
    obtain ⟨h1, h2⟩ := List.pairwise_cons.mp h
    have a := subs_ext xs r h2
    have b := subs_ext xs (r + 1) h2
    have e2 : ∀ l ∈ subs xs (r + 1), extL (x :: xs) l = extL xs l := fun l hl => by
      unfold extL
      rw [List.filter_cons_of_neg]
      rw [gtl_skip (subs_ne hl) fun n hn => Nat.le_of_lt (h1 n (subs_in _ _ _ hl n hn))]
      simp
    have e1 : ∀ l ∈ subs xs r, extL (x :: xs) (x :: l) = (extL xs l).map (x :: ·) := fun l hl => by
      unfold extL
      rw [List.map_map]
      by_cases hn : l = []
      · subst hn
        rw [List.filter_cons_of_neg (by simp [gtl])]
        rw [List.filter_congr (q := gtl []) fun n hn => by simp [gtl]; exact h1 n hn]
        rfl
      · rw [List.filter_cons_of_neg]
        · rw [List.filter_congr (q := gtl l) fun n _ => gtl_cons n hn]
          rfl
        · rw [gtl_cons _ hn, gtl_skip hn fun n hm => Nat.le_of_lt (h1 n (subs_in _ _ _ hl n hm))]
          simp
    rw [show subs (x :: xs) (r + 1 + 1) = (subs xs (r + 1)).map (x :: ·) ++ subs xs (r + 1 + 1) from rfl, show subs (x :: xs) (r + 1) = (subs xs r).map (x :: ·) ++ subs xs (r + 1) from rfl, List.flatMap_append, a, b]
    congr 1
    · rw [List.map_flatMap, List.flatMap_map]
      exact flatMap_same fun l hl => (e1 l hl).symm
    · rw [← a]
      exact flatMap_same fun l hl => (e2 l hl).symm
end L2.P3
/-! P3hb: loops over lists by what they make. -/
namespace L2.P3
open PySem PySem.Spec PyProof.Rows L2 Cmb
theorem foldl_push {α β : Type} (f : α → β) : ∀ (l : List α) (acc : List β), l.foldl (fun acc x => acc ++ [f x]) acc = acc ++ l.map f
  | [], acc => by simp
  | x :: l, acc => by rw [List.foldl_cons, foldl_push f l]; simp
theorem sz_small {a : Nat} {x : Int} (h : Sz a x) (ha : a ≤ 60) : -(2 ^ 64) < x ∧ x < 2 ^ 64 := by
  have : x.natAbs < 2 ^ 60 := Nat.lt_of_lt_of_le h (Nat.pow_le_pow_right (by decide) ha)
  omega
theorem belows_ints {n : Nat} (l : List Int) : belows n (l.map PV.int) = true := belows_mem.mpr fun x hx => by
  obtain ⟨i, _, rfl⟩ := List.mem_map.mp hx
  rfl
theorem ints_len (l : List Int) : (l.map PV.int).length = l.length := by simp
theorem dats_ints {st : Bool} {n : Nat} (l : List Int) : dats st n (l.map PV.int) = true := dats_mem.mpr fun x hx => by
  obtain ⟨i, _, rfl⟩ := List.mem_map.mp hx
  cases n <;> rfl
theorem pre_len {α : Type} {all pre post : List α} {x : α} (e : all = pre ++ x :: post) : pre.length < all.length := by rw [e]; simp
theorem pForL_fold {α β : Type} {chk : Store → Prop} {g : PTG} {b : PTS} [MoG g] [MoS b] {E : XW} {D : PEnds} (enc : α → PV) (step : β → α → β) (I : β → PEnv → Store → Prop) :
    ∀ (xs : List α) (c : β) {ρ : PEnv} {S : Store}, I c ρ S → (∀ c ρ S, I c ρ S → chk S) → (∀ c x ρ S, x ∈ xs → I c ρ S → g E (enc x) ρ S fun ρ1 S1 => b E { D with nx := I (step c x), ct := I (step c x), bk := D.nx } ρ1 S1) →
      (∀ ρ S, I (xs.foldl step c) ρ S → D.nx ρ S) → pForL chk g b E D (xs.map enc) ρ S
  | [], c, ρ, S, h0, hc, _, hd => ⟨hc _ _ _ h0, hd _ _ h0⟩
  | x :: xs, c, ρ, S, h0, hc, hs, hd => by
    refine ⟨hc _ _ _ h0, MoG.mo (g := g) (fun ρ1 S1 q => ?_) (hs c x ρ S List.mem_cons_self h0)⟩
    refine MoS.mo (f := b) ?_ q
    have nxt : ∀ ρ S, I (step c x) ρ S → pForL chk g b E D (xs.map enc) ρ S := fun ρ S h =>
      pForL_fold enc step I xs (step c x) h hc (fun c y ρ S hy => hs c y ρ S (List.mem_cons_of_mem _ hy)) hd
    exact ⟨nxt, fun _ _ z => z, fun _ _ z => z, nxt⟩
/-- .. by what has been taken so far -/
theorem pForL_pre {α : Type} {chk : Store → Prop} {g : PTG} {b : PTS} [MoG g] [MoS b] {E : XW} {D : PEnds} (enc : α → PV) (I : List α → PEnv → Store → Prop) (all : List α) :
    ∀ (xs pre : List α) {ρ : PEnv} {S : Store}, pre ++ xs = all → I pre ρ S → (∀ c ρ S, I c ρ S → chk S) → (∀ pre x post ρ S, all = pre ++ x :: post → I pre ρ S → g E (enc x) ρ S fun ρ1 S1 => b E { D with nx := I (pre ++ [x]), ct := I (pre ++ [x]), bk := D.nx } ρ1 S1) →
      (∀ ρ S, I all ρ S → D.nx ρ S) → pForL chk g b E D (xs.map enc) ρ S
  | [], pre, ρ, S, e, h0, hc, _, hd => ⟨hc _ _ _ h0, hd _ _ (by rw [← e, List.append_nil]; exact h0)⟩
  | x :: xs, pre, ρ, S, e, h0, hc, hs, hd => by
    refine ⟨hc _ _ _ h0, MoG.mo (g := g) (fun ρ1 S1 q => ?_) (hs pre x xs ρ S e.symm h0)⟩
    refine MoS.mo (f := b) ?_ q
    have nxt : ∀ ρ S, I (pre ++ [x]) ρ S → pForL chk g b E D (xs.map enc) ρ S := fun ρ S h =>
      pForL_pre enc I all xs (pre ++ [x]) (by simpa using e) h hc hs hd
    exact ⟨nxt, fun _ _ z => z, fun _ _ z => z, nxt⟩
/-- a search: a turn ends the loop, or goes on as it was -/
theorem pForL_find {α : Type} {chk : Store → Prop} {g : PTG} {b : PTS} [MoG g] [MoS b] {E : XW} {D : PEnds} (enc : α → PV) (I : PEnv → Store → Prop) (hc : ∀ ρ S, I ρ S → chk S) :
    ∀ (xs : List α) {ρ : PEnv} {S : Store}, I ρ S → (∀ x ρ S, x ∈ xs → I ρ S → g E (enc x) ρ S fun ρ1 S1 => b E { D with nx := I, ct := I, bk := D.nx } ρ1 S1) →
      (∀ ρ S, I ρ S → D.nx ρ S) → pForL chk g b E D (xs.map enc) ρ S := fun xs {_ _} h0 hs hd =>
  pForL_fold enc (fun (_ : Unit) _ => ()) (fun _ => I) xs () h0 (fun _ => hc) (fun _ x ρ S hx h => hs x ρ S hx h) hd
/-- a loop that looks for the first one for which p says yes -/
theorem pForL_first {α : Type} {chk : Store → Prop} {g : PTG} {b : PTS} [MoG g] [MoS b] {E : XW} {D : PEnds} (enc : α → PV) (p : α → Bool) (I : PEnv → Store → Prop) (hc : ∀ ρ S, I ρ S → chk S) :
    ∀ (xs : List α) {ρ : PEnv} {S : Store}, I ρ S → (∀ x ρ S, x ∈ xs → p x = false → I ρ S → g E (enc x) ρ S fun ρ1 S1 => b E { D with nx := I, ct := I, bk := D.nx } ρ1 S1) →
      (∀ pre x post ρ S, xs = pre ++ x :: post → (∀ y ∈ pre, p y = false) → p x = true → I ρ S → g E (enc x) ρ S fun ρ1 S1 => b E { D with nx := fun _ _ => False, ct := fun _ _ => False, bk := D.nx } ρ1 S1) →
      ((∀ x ∈ xs, p x = false) → ∀ ρ S, I ρ S → D.nx ρ S) → pForL chk g b E D (xs.map enc) ρ S
  | [], ρ, S, h0, _, _, hd => ⟨hc _ _ h0, hd (fun _ h => nomatch h) _ _ h0⟩
  | x :: xs, ρ, S, h0, hs, hy, hd => by
    refine ⟨hc _ _ h0, ?_⟩
    cases e : p x with
    | true =>
      refine MoG.mo (g := g) (fun ρ1 S1 q => ?_) (hy [] x xs ρ S rfl (fun _ h => nomatch h) e h0)
      refine MoS.mo (f := b) ?_ q
      exact ⟨fun _ _ z => False.elim z, fun _ _ z => z, fun _ _ z => z, fun _ _ z => False.elim z⟩
    | false =>
      refine MoG.mo (g := g) (fun ρ1 S1 q => ?_) (hs x ρ S List.mem_cons_self e h0)
      have nxt : ∀ ρ S, I ρ S → pForL chk g b E D (xs.map enc) ρ S := fun ρ S h =>
        pForL_first enc p I hc xs h (fun y ρ S hm => hs y ρ S (List.mem_cons_of_mem _ hm)) (fun pre y post ρ S e1 h1 => hy (x :: pre) y post ρ S (by rw [e1]; rfl) fun z hz => by
          rcases List.mem_cons.mp hz with rfl | hz
          · exact e
          · exact h1 z hz) (fun h1 => hd fun y hm => by
          rcases List.mem_cons.mp hm with rfl | hm
          · exact e
          · exact h1 y hm)
      refine MoS.mo (f := b) ?_ q
      exact ⟨nxt, fun _ _ z => z, fun _ _ z => z, nxt⟩
/-- a comprehension over a list, its parts leave the store as it is -/
theorem pLcL_map {α : Type} {chk : Store → Prop} {g : PTG} {tt : PTT} {te : PTE} {E : XW} {ρ0 : PEnv} {Q : PQ} {S : Store} (enc : α → PV) (f : α → PV) (hc : ∀ acc, chk (S ++ [acc])) (xs : List α) (hl : xs.length ≤ 16777216)
    (h : ∀ x ∈ xs, ∀ acc Qk, Qk (some (f x)) (S ++ [acc]) → lcStep g tt te E ρ0 (enc x) (S ++ [acc]) Qk) (q : Q (.lst S.length) (S ++ [xs.map f])) : pLcL chk g tt te E ρ0 S.length Q (xs.map enc) (S ++ [[]]) := by
  have go : ∀ (xs : List α) (acc : List PV), acc.length + xs.length ≤ 16777216 → (∀ x ∈ xs, ∀ acc Qk, Qk (some (f x)) (S ++ [acc]) → lcStep g tt te E ρ0 (enc x) (S ++ [acc]) Qk) → Q (.lst S.length) (S ++ [acc ++ xs.map f]) → pLcL chk g tt te E ρ0 S.length Q (xs.map enc) (S ++ [acc]) := by
    intro xs
    induction xs with
    | nil => intro acc _ _ q; exact ⟨hc acc, by simpa using q⟩
    | cons x xs ih =>
      intro acc hl h q
      refine ⟨hc acc, h x List.mem_cons_self acc (fun o S' => match o with
        | some y => onO S'[S.length]? fun a => a.length < 16777216 ∧ pLcL chk g tt te E ρ0 S.length Q (xs.map enc) (S'.set S.length (a ++ [y]))
        | none => pLcL chk g tt te E ρ0 S.length Q (xs.map enc) S') ?_⟩
      simp only [List.length_cons] at hl
      refine onO_of (x := acc) (by simp) ⟨by omega, ?_⟩
      have e2 : (S ++ [acc]).set S.length (acc ++ [f x]) = S ++ [acc ++ [f x]] := by
        rw [List.set_append_right _ _ (Nat.le_refl _)]
        simp
      rw [e2]
      refine ih (acc ++ [f x]) (by simp; omega) (fun y hy => h y (List.mem_cons_of_mem _ hy)) ?_
      simpa using q
  exact go xs [] (by simpa using hl) h (by simpa using q)
/-- .. with a test -/
theorem pLcL_some {α : Type} {chk : Store → Prop} {g : PTG} {tt : PTT} {te : PTE} {E : XW} {ρ0 : PEnv} {Q : PQ} {S : Store} (enc : α → PV) (f : α → Option PV) (hc : ∀ acc, chk (S ++ [acc])) (xs : List α) (hl : xs.length ≤ 16777216)
    (h : ∀ x ∈ xs, ∀ acc Qk, Qk (f x) (S ++ [acc]) → lcStep g tt te E ρ0 (enc x) (S ++ [acc]) Qk) (q : Q (.lst S.length) (S ++ [xs.filterMap f])) : pLcL chk g tt te E ρ0 S.length Q (xs.map enc) (S ++ [[]]) := by
  have go : ∀ (xs : List α) (acc : List PV), acc.length + xs.length ≤ 16777216 → (∀ x ∈ xs, ∀ acc Qk, Qk (f x) (S ++ [acc]) → lcStep g tt te E ρ0 (enc x) (S ++ [acc]) Qk) → Q (.lst S.length) (S ++ [acc ++ xs.filterMap f]) → pLcL chk g tt te E ρ0 S.length Q (xs.map enc) (S ++ [acc]) := by
    intro xs
    induction xs with
    | nil => intro acc _ _ q; exact ⟨hc acc, by simpa using q⟩
    | cons x xs ih =>
      intro acc hl h q
      refine ⟨hc acc, h x List.mem_cons_self acc (fun o S' => match o with
        | some y => onO S'[S.length]? fun a => a.length < 16777216 ∧ pLcL chk g tt te E ρ0 S.length Q (xs.map enc) (S'.set S.length (a ++ [y]))
        | none => pLcL chk g tt te E ρ0 S.length Q (xs.map enc) S') ?_⟩
      simp only [List.length_cons] at hl
      cases e : f x with
      | none =>
        rw [List.filterMap_cons_none e] at q
        exact ih acc (by omega) (fun y hy => h y (List.mem_cons_of_mem _ hy)) q
      | some z =>
        rw [List.filterMap_cons_some e] at q
        refine onO_of (x := acc) (by simp) ⟨by omega, ?_⟩
        have e2 : (S ++ [acc]).set S.length (acc ++ [z]) = S ++ [acc ++ [z]] := by
          rw [List.set_append_right _ _ (Nat.le_refl _)]
          simp
        rw [e2]
        refine ih (acc ++ [z]) (by simp; omega) (fun y hy => h y (List.mem_cons_of_mem _ hy)) ?_
        simpa using q
  exact go xs [] (by simpa using hl) h (by simpa using q)
/-- one turn of a sum -/
def smStep (g : PTG) (tt : PTT) (te : PTE) (E : XW) (ρ0 : PEnv) (x : PV) (S : Store) (Qk : Int → Store → Prop) : Prop :=
  g E x ρ0 S fun ρ1 S1 => tt E ρ1 S1 fun b S2 => Br b (te E ρ1 S2 fun y S3 => onInt y fun k => Qk k S3) (Qk 0 S2)
theorem pSumL_map {α : Type} {chk : Store → Prop} {g : PTG} {tt : PTT} {te : PTE} [MoG g] [MoT tt] [MoE te] {E : XW} {ρ0 : PEnv} {Q : PQ} {S : Store} (enc : α → PV) (f : α → Int) (hc : chk S) : ∀ (xs : List α) (acc : Int),
    (∀ x ∈ xs, ∀ Qk, Qk (f x) S → smStep g tt te E ρ0 (enc x) S Qk) → Q (.int (xs.foldl (fun s x => s + f x) acc)) S → pSumL chk g tt te E ρ0 Q (xs.map enc) acc S
  | [], acc, _, q => ⟨hc, q⟩
  | x :: xs, acc, h, q => by
    refine ⟨hc, ?_⟩
    have := h x List.mem_cons_self (fun k S' => pSumL chk g tt te E ρ0 Q (xs.map enc) (acc + k) S') (pSumL_map enc f hc xs _ (fun y hy => h y (List.mem_cons_of_mem _ hy)) q)
    refine MoG.mo (g := g) (fun _ _ q => MoT.mo (f := tt) (fun b _ q => ?_) q) this
    cases b with
    | false =>
      have q : pSumL chk g tt te E ρ0 Q (xs.map enc) (acc + 0) _ := q
      rw [Int.add_zero] at q
      exact q
    | true => exact q
theorem allO_ints {S : Store} {n : Nat} : ∀ l : List Int, allO (pdat S n) (l.map PV.int) = some (l.map PyData.int)
  | [] => rfl
  | i :: l => by
    have h : pdat S n (.int i) = some (.int i) := by cases n <;> rfl
    rw [List.map_cons, allO, h, allO_ints l]
    rfl
theorem pdat_ints {S : Store} {n : Nat} (l : List Int) : pdat S (n + 1) (.tup (l.map PV.int)) = some (.tuple (l.map PyData.int)) := by
  show (allO (pdat S n) (l.map PV.int)).map PyData.tuple = _
  rw [allO_ints]
  rfl
theorem eqvAll_ints : ∀ l m : List Int, PyData.eqvAll (l.map .int) (m.map .int) = decide (l = m)
  | [], [] => by simp [PyData.eqvAll]
  | [], m :: ms => by simp [PyData.eqvAll]
  | l :: ls, [] => by simp [PyData.eqvAll]
  | l :: ls, m :: ms => by
    rw [List.map_cons, List.map_cons, PyData.eqvAll, eqvAll_ints ls ms, PyData.eqv]
    by_cases h1 : l = m <;> by_cases h2 : ls = ms <;> simp [h1, h2]
theorem eqv_ints (l m : List Int) : PyData.eqv (.tuple (l.map .int)) (.tuple (m.map .int)) = decide (l = m) := by
  rw [PyData.eqv]
  exact eqvAll_ints l m
/-- whole numbers from 0 on, as Int -/
def nz (l : List Nat) : List Int := l.map fun (n : Nat) => (n : Int)
theorem nz_len (l : List Nat) : (nz l).length = l.length := by simp [nz]
theorem range_ge (lo many : Nat) : (List.range many).filter (fun n => decide (lo ≤ n)) = List.range' lo (many - lo) := by
  induction many with
  | zero => simp
  | succ m ih =>
    rw [List.range_succ, List.filter_append, ih]
    by_cases h : lo ≤ m
    · rw [List.filter_cons_of_pos (by simpa using h), List.filter_nil, show m + 1 - lo = (m - lo) + 1 by omega, List.range'_concat]
      simp; omega
    · rw [List.filter_cons_of_neg (by simpa using h), List.filter_nil, show m + 1 - lo = m - lo by omega, List.append_nil]
theorem rng_from (lo : Nat) (many : Nat) : (List.range ((many : Int) - lo).toNat).map (fun (k : Nat) => PV.int ((lo : Int) + k)) = (List.range' lo (many - lo)).map fun (n : Nat) => PV.int (n : Int) := by
  rw [show ((many : Int) - lo).toNat = many - lo by omega, List.range'_eq_map_range, List.map_map]
  refine List.map_congr_left fun k _ => ?_
  simp
theorem foldl_sum {α : Type} (f : α → Int) : ∀ (l : List α) (a : Int), l.foldl (fun s w => s + f w) a = a + (l.map f).sum
  | [], a => by simp
  | w :: l, a => by rw [List.foldl_cons, foldl_sum f l, List.map_cons, List.sum_cons]; omega
theorem absSum_eq (l : List Int) : absSum l = (l.map fun w => (w.natAbs : Int)).sum := by
  unfold absSum
  rw [foldl_sum]
  omega
theorem asInts_map2 {α : Type} (f : α → Int) (l : List α) : asInts (l.map fun w => PV.int (f w)) = some (l.map f) := by
  rw [show (l.map fun w => PV.int (f w)) = (l.map f).map PV.int by simp]
  exact asInts_map _
end L2.P3
/-! P3hc: sorted of data; the greatest and the least of whole numbers. -/
namespace L2.P3
open PySem PySem.Spec PyProof.Rows L2 Cmb
/-- sorted(xs), a list of alike data -/
def rSortD (K : PySem.W.Frag) : List V → Hp → VK → Prop := fun vs H Q => ∃ (a : Addr) (bs : List (V × PyData)), vs = [V.ref a] ∧ SqL K H a (bs.map (·.1)) ∧ DpAll K H (bs.map (·.1)) (bs.map (·.2)) ∧ PySem.W.AllAlike (bs.map (·.2)) ∧ PySem.W.Sortable (bs.map (·.2)) ∧ (∀ b ∈ bs, b.2.depth ≤ 6) ∧
  ∀ p, H p = none → Q (.ref p) (upd H p (.lst ((bs.mergeSort (PySem.W.dataLe false fun b => b.2)).map (·.1))))
section
variable {X : Cx}
theorem each_of {H : Hp} {pins : List (Addr × Obj)} {σ : L2.St} {s : Shared} (I : Inv X pins σ H s) : ∀ (bs : List (V × PyData)) (us : List Value), Vals (bs.map (·.1)) us → DpAll X.K H (bs.map (·.1)) (bs.map (·.2)) →
    PySem.W.EachIs (fun (u : Value) (b : V × PyData) => RelV b.1 u) us bs ∧ PySem.W.EachIs (fun u b => ∃ as, Reads s.heap u b.2 as) us bs
  | [], us, r, _ => by
    cases r
    exact ⟨.nil, .nil⟩
  | b :: bs, us, r, d => by
    cases r with
    | cons r1 r2 =>
      cases d with
      | cons d1 d2 =>
        obtain ⟨e1, e2⟩ := each_of I bs _ r2 d2
        exact ⟨.cons r1 e1, .cons (Dp.reads I _ _ _ d1 r1) e2⟩
theorem vals_each : ∀ {us : List Value} {bs : List (V × PyData)}, PySem.W.EachIs (fun (u : Value) (b : V × PyData) => RelV b.1 u) us bs → Vals (bs.map (·.1)) us
  | _, _, .nil => .nil
  | _, _, .cons h t => .cons h (vals_each t)
theorem cr_sortD (hu : X.A.units + 64 < cLine) : CallR X (.builtin "sorted") (rSortD X.K) := by
  intro pins s σ H vs us Q I r h
  obtain ⟨a, bs, rfl, hs, hd, hal, hk, hdp, q⟩ := h
  obtain ⟨its, rv, hl, hz⟩ := I.list hs
  rw [Vals.ref1 r]
  obtain ⟨e1, e2⟩ := each_of I bs its rv hd
  have hlen : bs.length ≤ sizeLine := by simpa using hz
  refine PySem.W.sorted_data (enc := fun b : V × PyData => b.2) hl.isList e1 e2 hal hk hlen (fun b hb => ?_) fun out ho he => ?_
  · have := hdp b hb
    omega
  · have hv := vals_each he
    have hout : (bs.mergeSort (PySem.W.dataLe false fun b => b.2)).length = bs.length := List.length_mergeSort _
    refine ⟨.ref _, upd H (s.heap.objs.size + 1) (.lst ((bs.mergeSort (PySem.W.dataLe false fun b => b.2)).map (·.1))), I.laid (t' := s.toks) (fun _ _ => PyProof.Rows.sortedAll_old) (Nat.le_succ _) ⟨by rw [List.length_map, hout]; exact hlen, out, ?_⟩, rfl, q _ (I.hok.fresh (Nat.le_succ _))⟩
    obtain ⟨ep, he'⟩ := PyProof.Rows.sortedAll_at s.heap its out.toArray
    exact ⟨ep, hv, he'⟩
/-- a list of one item, or none -/
def rSort1 (K : PySem.W.Frag) : List V → Hp → VK → Prop := fun vs H Q => ∃ (a : Addr) (xs : List V), vs = [V.ref a] ∧ SqL K H a xs ∧ xs.length < 2 ∧ ∀ p, H p = none → Q (.ref p) (upd H p (.lst xs))
theorem cr_sort1 : CallR X (.builtin "sorted") (rSort1 X.K) := by
  intro pins s σ H vs us Q I r h
  obtain ⟨a, xs, rfl, hs, h2, q⟩ := h
  obtain ⟨its, rv, hl, hz⟩ := I.list hs
  have hlen := rv.length
  rw [Vals.ref1 r]
  refine SrtO.sorted_ord (ltv := fun _ _ => false) ⟨fun _ _ h => (by cases h), fun _ _ _ _ _ => rfl⟩ hl.isList (by rw [← hlen]; exact hz) (fun h => by omega) fun out _ hb => ?_
  have ho : out = its := by
    have hp := hb.perm
    have hl2 := hp.length_eq
    match its, out, hl2, hp, hlen with
    | [], [], _, _, _ => rfl
    | [x], [y], _, hp, _ => rw [List.singleton_perm_singleton.mp hp]
    | _ :: _ :: _, _, _, _, e => simp at e; omega
  subst ho
  obtain ⟨ep, he'⟩ := PyProof.Rows.sortedAll_at s.heap out out.toArray
  exact ⟨.ref _, upd H (s.heap.objs.size + 1) (.lst xs), I.laid (t' := s.toks) (fun _ _ => PyProof.Rows.sortedAll_old) (Nat.le_succ _) ⟨hz, out, ep, rv, he'⟩, rfl, q _ (I.hok.fresh (Nat.le_succ _))⟩
end
/-- a value as data -/
def pD (S : Store) (y : PV) : PyData := (pdat S 6 y).getD .none
def psort (S : Store) (ys : List PV) : List PV := ys.mergeSort (PySem.W.dataLe false (pD S))
/-- a list's items -/
def itsL (S : Store) : PV → Option (List PV)
  | .lst n => S[n]?
  | .rol xs => some xs
  | _ => none
structure SortOk (S : Store) (ys : List PV) : Prop where
  dat : ∀ y ∈ ys, (pdat S 6 y).isSome = true
  alike : PySem.W.AllAlike (ys.map (pD S))
  kind : PySem.W.Sortable (ys.map (pD S))
def oSorted : PCl := fun xs S Q => match xs with
  | [x] => onO (itsL S x) fun ys => (SortOk S ys ∨ ys.length < 2) ∧ Q (.lst S.length) (S ++ [psort S ys])
  | _ => False
instance : MoC oSorted := ⟨fun h q => by
  unfold oSorted at q ⊢
  split at q
  · exact onO_mo (fun _ q => ⟨q.1, h _ _ q.2⟩) q
  · exact q.elim⟩
section
variable {bk : BagKind} {K : PySem.W.Frag} {M : Am} {S : Store} {H : Hp}
theorem itsL_sq {x : PV} {v : V} {xs : List PV} (s : Sto K bk M S H) (r : Rp K bk.root M H x v) (e : itsL S x = some xs) : ∃ a vs, v = .ref a ∧ SqL K H a vs ∧ Rps K bk.root M H xs vs := by
  cases x with
  | lst n =>
    obtain ⟨a, ea, rfl⟩ := rp_lst r
    obtain ⟨vs, h1, sv⟩ := s.lst ea e
    exact ⟨a, vs, rfl, SqL.of h1, sv⟩
  | rol ys =>
    cases e
    obtain ⟨a, vs, rfl, h1, sv⟩ := rp_rol r
    exact ⟨a, vs, rfl, h1.sq, sv⟩
  | _ => cases e
theorem dpAll_of (s : Sto K bk M S H) : ∀ {ys : List PV} {vs : List V}, Rps K bk.root M H ys vs → (∀ y ∈ ys, (pdat S 6 y).isSome = true) → DpAll K H vs (ys.map (pD S)) ∧ ∀ y ∈ ys, (pD S y).depth ≤ 6
  | [], vs, r, _ => by
    rw [Rps] at r
    subst r
    exact ⟨.nil, fun _ h => nomatch h⟩
  | y :: ys, vs, r, h => by
    rw [Rps] at r
    obtain ⟨v, ws, rfl, r1, r2⟩ := r
    obtain ⟨d, hd⟩ := Option.isSome_iff_exists.mp (h y List.mem_cons_self)
    obtain ⟨h1, h2, h3⟩ := pdat_dp s 6 y v d r1 hd
    have e : pD S y = d := by unfold pD; rw [hd]; rfl
    obtain ⟨k1, k2⟩ := dpAll_of s r2 fun z hz => h z (List.mem_cons_of_mem _ hz)
    refine ⟨by rw [List.map_cons, e]; exact .cons h1 k1, fun z hz => ?_⟩
    rcases List.mem_cons.mp hz with rfl | hz
    · rw [e]; exact h3
    · exact k2 z hz
theorem rps_zip {r : Nat} : ∀ {zs : List (PV × V)}, (∀ z ∈ zs, Rp K r M H z.1 z.2) → Rps K r M H (zs.map (·.1)) (zs.map (·.2))
  | [], _ => .nil
  | z :: zs, h => .cons (h z List.mem_cons_self) (rps_zip fun y hy => h y (List.mem_cons_of_mem _ hy))
theorem zip_rps {r : Nat} : ∀ {ys : List PV} {vs : List V}, Rps K r M H ys vs → ∃ zs : List (PV × V), zs.map (·.1) = ys ∧ zs.map (·.2) = vs ∧ ∀ z ∈ zs, Rp K r M H z.1 z.2
  | [], vs, h => by
    rw [Rps] at h
    exact ⟨[], rfl, h.symm, fun _ h => nomatch h⟩
  | y :: ys, vs, h => by
    rw [Rps] at h
    obtain ⟨v, ws, rfl, r1, r2⟩ := h
    obtain ⟨zs, e1, e2, e3⟩ := zip_rps r2
    refine ⟨(y, v) :: zs, by rw [List.map_cons, e1], by rw [List.map_cons, e2], fun z hz => ?_⟩
    rcases List.mem_cons.mp hz with rfl | hz
    · exact r1
    · exact e3 z hz
theorem psort_short {S : Store} {ys : List PV} (h : ys.length < 2) : psort S ys = ys := by
  unfold psort
  match ys, h with
  | [], _ => simp
  | [y], _ => simp
  | _ :: _ :: _, h => simp at h; omega
theorem oSortedP : ClP bk K (fun x H Q => rSortD K x H Q ∨ rSort1 K x H Q) oSorted := fun M S H x v Q Q' s r q p => by
  unfold oSorted at q
  split at q
  · obtain ⟨v, rfl, z⟩ := rps1 r
    obtain ⟨ys, e, h, q⟩ := onO_ex q
    obtain ⟨a, vs, rfl, hq, sv⟩ := itsL_sq s z e
    rcases h with h | h
    · refine .inl ?_
      obtain ⟨zs, e1, e2, e3⟩ := zip_rps sv
      subst e1 e2
      obtain ⟨d1, d2⟩ := dpAll_of s sv h.dat
      refine ⟨a, zs.map fun z => (z.2, pD S z.1), rfl, ?_, ?_, ?_, ?_, ?_, fun pp hp => ?_⟩
      · rw [List.map_map]; exact hq
      · rw [List.map_map, List.map_map]
        rw [List.map_map] at d1
        exact d1
      · have := h.alike
        rw [List.map_map] at this ⊢
        exact this
      · have := h.kind
        rw [List.map_map] at this ⊢
        exact this
      · intro b hb
        obtain ⟨z, hz, rfl⟩ := List.mem_map.mp hb
        exact d2 z.1 (List.mem_map.mpr ⟨z, hz, rfl⟩)
      · have m1 : (zs.map fun z => (z.2, pD S z.1)).mergeSort (PySem.W.dataLe false fun b : V × PyData => b.2) = (zs.mergeSort (PySem.W.dataLe false fun z : PV × V => pD S z.1)).map fun z => (z.2, pD S z.1) :=
          (List.map_mergeSort (f := fun z : PV × V => (z.2, pD S z.1)) (r := PySem.W.dataLe false fun z : PV × V => pD S z.1) (s := PySem.W.dataLe false fun b : V × PyData => b.2) fun _ _ _ _ => rfl).symm
        have m2 : psort S (zs.map (·.1)) = (zs.mergeSort (PySem.W.dataLe false fun z : PV × V => pD S z.1)).map (·.1) :=
          (List.map_mergeSort (f := fun z : PV × V => z.1) (r := PySem.W.dataLe false fun z : PV × V => pD S z.1) (s := PySem.W.dataLe false (pD S)) fun _ _ _ _ => rfl).symm
        rw [m1, List.map_map]
        rw [m2] at q
        exact p.lst s (rps_zip fun z hz => e3 z ((List.mergeSort_perm _ _).mem_iff.mp hz)) q pp hp
    · refine .inr ⟨a, vs, rfl, hq, by rw [sv.length]; exact h, fun pp hp => ?_⟩
      rw [psort_short h] at q
      exact p.lst s sv q pp hp
  · exact q.elim
/-- max(xs), min(xs) of a list of whole numbers -/
def oMaxL : PCl := fun xs S Q => match xs with
  | [x] => onO (itsL S x) fun ys => onO (asInts ys) fun ns => 0 < ns.length ∧ ∀ m, m ∈ ns → (∀ y ∈ ns, y ≤ m) → Q (.int m) S
  | _ => False
def oMinL : PCl := fun xs S Q => match xs with
  | [x] => onO (itsL S x) fun ys => onO (asInts ys) fun ns => 0 < ns.length ∧ ∀ m, m ∈ ns → (∀ y ∈ ns, m ≤ y) → Q (.int m) S
  | _ => False
instance : MoC oMaxL := ⟨fun h q => by
  unfold oMaxL at q ⊢
  split at q
  · exact onO_mo (fun _ q => onO_mo (fun _ q => ⟨q.1, fun m h1 h2 => h _ _ (q.2 m h1 h2)⟩) q) q
  · exact q.elim⟩
instance : MoC oMinL := ⟨fun h q => by
  unfold oMinL at q ⊢
  split at q
  · exact onO_mo (fun _ q => onO_mo (fun _ q => ⟨q.1, fun m h1 h2 => h _ _ (q.2 m h1 h2)⟩) q) q
  · exact q.elim⟩
theorem oMaxLP : ClP bk K (rMax K) oMaxL := fun M S H x v Q Q' s r q p => by
  unfold oMaxL at q
  split at q
  · obtain ⟨v, rfl, z⟩ := rps1 r
    obtain ⟨ys, e, q⟩ := onO_ex q
    obtain ⟨ns, e2, h, q⟩ := onO_ex q
    obtain ⟨a, vs, rfl, hq, sv⟩ := itsL_sq s z e
    rw [asInts_eq e2] at sv
    rw [rps_ints sv] at hq
    exact ⟨a, ns, rfl, hq, h, fun m h1 h2 => p M S H _ _ (.refl M H) s to_int (q m h1 h2)⟩
  · exact q.elim
theorem oMinLP : ClP bk K (rMin K) oMinL := fun M S H x v Q Q' s r q p => by
  unfold oMinL at q
  split at q
  · obtain ⟨v, rfl, z⟩ := rps1 r
    obtain ⟨ys, e, q⟩ := onO_ex q
    obtain ⟨ns, e2, h, q⟩ := onO_ex q
    obtain ⟨a, vs, rfl, hq, sv⟩ := itsL_sq s z e
    rw [asInts_eq e2] at sv
    rw [rps_ints sv] at hq
    exact ⟨a, ns, rfl, hq, h, fun m h1 h2 => p M S H _ _ (.refl M H) s to_int (q m h1 h2)⟩
  · exact q.elim
end
end L2.P3
/-! P3hd: the order of data, in plain words. -/
namespace L2.P3
open PySem PySem.Spec PyProof.Rows L2 Cmb
abbrev iD (l : List Int) : List PyData := l.map .int
abbrev lexD (xs ys : List PyData) : Bool := PyProof.Rows.lexLt PyProof.Rows.itemOrd (PySem.W.keyToksAll xs) (PySem.W.keyToksAll ys)
theorem lexD_yes {x y : PyData} {xs ys : List PyData} (h : PySem.W.alike x y = true) (e : PyData.eqv x y = true) : lexD (x :: xs) (y :: ys) = lexD xs ys := PySem.W.dataLt_all_yes h e
theorem lexD_no {x y : PyData} {xs ys : List PyData} (h : PySem.W.alike x y = true) (e : PyData.eqv x y = false) : lexD (x :: xs) (y :: ys) = PySem.W.dataLt x y := PySem.W.dataLt_all_no h e
theorem alike_int (x y : Int) : PySem.W.alike (.int x) (.int y) = true := by simp [PySem.W.alike]
theorem lexD_int (x y : Int) (xs ys : List PyData) : lexD (.int x :: xs) (.int y :: ys) = if x = y then lexD xs ys else decide (x < y) := by
  by_cases h : x = y
  · rw [if_pos h, lexD_yes (alike_int x y) (by rw [PyData.eqv]; simpa using h)]
  · rw [if_neg h, lexD_no (alike_int x y) (by rw [PyData.eqv]; simpa using h), PySem.W.dataLt_int]
/-- words of whole numbers in their order -/
def ltI : List Int → List Int → Prop
  | x :: l, y :: m => x < y ∨ x = y ∧ ltI l m
  | [], _ :: _ => True
  | _, [] => False
theorem ltI_no : ∀ {l m : List Int}, ltI l m → l ≠ m ∧ lexD (iD m) (iD l) = false
  | x :: l, y :: m, h => by
    show _ ∧ lexD (.int y :: iD m) (.int x :: iD l) = false
    rw [lexD_int]
    rcases h with h | ⟨rfl, h⟩
    · rw [if_neg (by omega)]
      exact ⟨fun z => by cases z; omega, decide_eq_false (by omega)⟩
    · obtain ⟨h1, h2⟩ := ltI_no h
      rw [if_pos rfl]
      exact ⟨fun z => h1 (by cases z; rfl), h2⟩
  | [], y :: m, _ => ⟨by simp, by
    show lexD (.int y :: iD m) [] = false
    simp [lexD, PySem.W.keyToksAll, PyProof.Rows.lexLt, PyProof.Rows.itemOrd, PyProof.Rows.itemLt]⟩
  | [], [], h => h.elim
  | _ :: _, [], h => h.elim
theorem dataLt_tup (xs ys : List PyData) : PySem.W.dataLt (.tuple xs) (.tuple ys) = lexD xs ys := PySem.W.dataLt_tuple xs ys
theorem dataLe_is {β : Type} (k : β → PyData) (a b : β) : PySem.W.dataLe false k a b = !PySem.W.dataLt (k b) (k a) := rfl
/-- words in the order of their first parts -/
theorem ltI_first {l m : List Int} {r s : List PyData} (h : ltI l m) : PySem.W.dataLt (.tuple (.tuple (iD m) :: s)) (.tuple (.tuple (iD l) :: r)) = false := by
  obtain ⟨h1, h2⟩ := ltI_no h
  rw [dataLt_tup, lexD_no, dataLt_tup]
  · exact h2
  · simp only [PySem.W.alike]; exact PySem.W.alike_ints _ _
  · rw [eqv_ints]; exact decide_eq_false (Ne.symm h1)
theorem ltI_map {x : Int} {l m : List Int} (h : ltI l m) : ltI (x :: l) (x :: m) := .inr ⟨rfl, h⟩
/-- lots of rising numbers stand in their order -/
theorem subs_lex : ∀ (xs : List Nat) (r : Nat), xs.Pairwise (· < ·) → (subs xs r).Pairwise fun l m => ltI (nz l) (nz m)
  | xs, 0, _ => by rw [subs_zero]; exact List.pairwise_singleton ..
  | [], r + 1, _ => by simp [subs]
  | x :: xs, r + 1, h => by
    obtain ⟨h1, h2⟩ := List.pairwise_cons.mp h
    rw [subs, List.pairwise_append]
    refine ⟨?_, subs_lex xs (r + 1) h2, ?_⟩
    · rw [List.pairwise_map]
      exact (subs_lex xs r h2).imp fun h => ltI_map h
    · intro l hl m hm
      obtain ⟨l', hl', rfl⟩ := List.mem_map.mp hl
      have hml := subs_len _ _ _ hm
      match m, hm, hml with
      | y :: m', hm, _ =>
        have := h1 y (subs_in _ _ _ hm y List.mem_cons_self)
        exact .inl (by show (x : Int) < (y : Int); omega)
theorem alikeAll_of {f : PV → PyData} {xs : List PV} (h : ∀ x ∈ xs, ∀ y ∈ xs, PySem.W.alike (f x) (f y) = true) : PySem.W.AllAlike (xs.map f) := fun d hd e he => by
  obtain ⟨x, hx, rfl⟩ := List.mem_map.mp hd
  obtain ⟨y, hy, rfl⟩ := List.mem_map.mp he
  exact h x hx y hy
/-- a sorted list stays -/
theorem psort_id {S : Store} {ys : List PV} (h : ys.Pairwise fun a b => PySem.W.dataLt (pD S b) (pD S a) = false) : psort S ys = ys := by
  unfold psort
  refine List.mergeSort_of_pairwise (h.imp fun h => ?_)
  rw [dataLe_is, h]
  rfl
def slipped (figs : List Int) (p : Nat) (e : Int) : List Int := figs.set p (figs.getD p 0 + e)
theorem slipped_len (figs : List Int) (p : Nat) (e : Int) : (slipped figs p e).length = figs.length := by simp [slipped]
theorem slip_is {figs : List Int} {p : Nat} {e : Int} (h : p < figs.length) : (figs.map PV.int).take p ++ [PV.int (figs.getD p 0 + e)] ++ (figs.map PV.int).drop (p + 1) = (slipped figs p e).map PV.int := by
  unfold slipped
  rw [List.set_eq_take_append_cons_drop, if_pos h]
  simp
theorem numOn_rng (figs l w : List Int) (h : w.length = l.length) : ((List.range l.length).map fun p => w.getD p 0 * figs.getD (l.getD p 0).toNat 0).sum = numOn figs l w := by
  unfold numOn
  rw [foldl_sum (fun p : Int × Int => p.2 * figs.getD p.1.toNat 0), Int.zero_add]
  congr 1
  refine List.ext_getElem (by simp [h]) fun i h1 h2 => ?_
  have hi : i < l.length := by simpa using h1
  have hi2 : i < w.length := by omega
  simp [List.getD, hi, hi2]
theorem getD_in {l : List Int} {p : Nat} (h : p < l.length) : l.getD p 0 ∈ l := by
  have : l.getD p 0 = l[p] := by simp [List.getD, h]
  rw [this]
  exact List.getElem_mem h
theorem atI_ints {l : List Int} {p : Nat} (h : p < l.length) : atI (l.map PV.int) (p : Int) = some (.int (l.getD p 0)) := by
  rw [atI_get? (by omega), List.getElem?_map]
  simp [List.getD, h]
theorem fm_filter {α β : Type} (p : α → Bool) (f : α → β) : ∀ l : List α, l.filterMap (fun x => if p x = true then some (f x) else none) = (l.filter p).map f
  | [] => rfl
  | x :: l => by
    cases h : p x with
    | true => rw [List.filterMap_cons_some (b := f x) (by simp [h]), List.filter_cons_of_pos h, List.map_cons, fm_filter p f l]
    | false => rw [List.filterMap_cons_none (by simp [h]), List.filter_cons_of_neg (by simp [h]), fm_filter p f l]
end L2.P3
/-! P3ie: enumerate of lists and tuples. -/
namespace L2.P3.Z
open PySem PySem.Spec PyProof.Rows L2
open AutoSeq1 (wpAny_loadPart')
theorem draws_side {prog : Program} {w : World} {A : Around} (hh : A.handled = none) (t : Bool) (it l : Addr) (hne : l ≠ it) (items : Array Value) :
    Draws prog w A it [it, l] items.size (fun i v => items[i]? = some v) (fun i h => SIt t h it l i ∧ SSq t h l items) where
  live := fun _ _ st => by
    cases t
    · obtain ⟨o, ho, _⟩ := (st.1 : Heap.IsListIter _ _ _ _)
      exact ⟨o, ho⟩
    · obtain ⟨o, ho, _⟩ := (st.1 : Heap.IsTupleIter _ _ _ _)
      exact ⟨o, ho⟩
  frame := fun _ _ _ st hk => by
    refine ⟨st.1.keepAt fun o e => hk it (by simp) o e, ?_⟩
    cases t
    · exact Heap.IsList.at st.2 fun o e => hk l (by simp) o e
    · obtain ⟨o, e, q⟩ := (st.2 : Heap.IsTuple _ _ _)
      exact ⟨o, hk l (by simp) o e, q⟩
  item := fun i s Q E hi st hQ => by
    refine side_item st.1 st.2 (x := items[i]) (by simp [hi]) fun h' hit' hs' => ?_
    exact hQ _ h' s.toks (by simp [hi]) ⟨hit', st.2.but hs'.extBut hne⟩ hs'
  done := fun s Q E st hE => side_end hh st.1 st.2 (by simp) hE
theorem enum_born (t : Bool) (l : Addr) (us : Array Value) :
    Meets (Builtin.«enumerate.__new__» ⟨[.type "enumerate", .ref l], []⟩) (fun _ R s => SSq t s.heap l us ∧
      R (.ok (.ret (.ref (s.heap.push (sideObj t l)).objs.size)))
        { s with heap := (s.heap.push (sideObj t l)).push { cls := .type "enumerate", data := .fields #[.none, .bool false, .ref s.heap.objs.size, rawInt 0, .none, .none] } }) :=
  .of_wp fun prog w A R s h => by
    obtain ⟨hp, g, d, tk, os⟩ := s; obtain ⟨hl, h⟩ := h
    have hsub := sub_enumerate
    have hL : SSq t (Shared.heap ⟨hp, g, d, tk, os⟩) l us := hl
    have hload : ∃ o, hp.get? l = some o := by
      cases t
      · obtain ⟨o, e, _⟩ := (hl : Heap.IsList _ _ _); exact ⟨o, e⟩
      · obtain ⟨o, e, _⟩ := (hl : Heap.IsTuple _ _ _); exact ⟨o, e⟩
    obtain ⟨o, ho⟩ := hload
    wp_walk using wpAny_loadPart' ho
    refine wpAny_stack_any fun st => wpAny_pure ?_
    split
    · rename_i c _ _ _ _ _
      cases (c == Value.type "enumerate")
      · wp_walk using wpAny_loadPart' ho, side_iter hL
        exact ⟨_, rfl, h⟩
      · wp_walk using wpAny_loadPart' ho, side_iter hL
        exact ⟨_, rfl, h⟩
    · wp_walk using wpAny_loadPart' ho, side_iter hL
      exact ⟨_, rfl, h⟩
section
variable {prog : Program} {w : World} {A : Around} {E : Value → Shared → Prop} {s : Shared}
theorem enum_call {t : Bool} {l : Addr} {us : Array Value} {Q : Value → Shared → Prop} (hL : SSq t s.heap l us)
    (h : ∀ h', IsEnum h' (s.heap.objs.size + 1) s.heap.objs.size 0 .none → SIt t h' s.heap.objs.size l 0 → (∀ b o, s.heap.get? b = some o → h'.get? b = some o) → Q (.ref (s.heap.objs.size + 1)) { s with heap := h' }) :
    wpAny (model prog w) A (call (.type "enumerate") [.ref l]) Q E s := by
  refine callType_new F.called_enumerate (by decide) (F.typeCall_enumerate_1 _) (F.newCall_enumerate_1 _) (fun obj => F.args_object_init_2 obj _) F.entry_enumerate_new (enum_born t l us) ⟨hL, ?_⟩
  have hz : (s.heap.push (sideObj t l)).objs.size = s.heap.objs.size + 1 := Heap.size_push ..
  show _ ∧ _
  rw [hz]
  have he := Heap.get?_push_size (s.heap.push (sideObj t l)) (o := { cls := .type "enumerate", data := .fields #[.none, .bool false, .ref s.heap.objs.size, rawInt 0, .none, .none] }) rfl
  rw [hz] at he
  have hi : ((s.heap.push (sideObj t l)).push { cls := .type "enumerate", data := .fields #[.none, .bool false, .ref s.heap.objs.size, rawInt 0, .none, .none] }).get? s.heap.objs.size = some (sideObj t l) := Heap.get?_push_of_some _ (Heap.get?_push_size _ (side_live t l))
  exact ⟨⟨_, he, rfl⟩, h _ he (.start hi) fun b o e => Heap.get?_push_of_some _ (Heap.get?_push_of_some _ e)⟩
end
end L2.P3.Z
namespace L2.P3
open PySem PySem.Spec PyProof.Rows L2 L2.P3.Z
/-- the sequence at a as it stands at each turn, each item in a new pair -/
def IteS (K : PySem.W.Frag) (t : Bool) (a : Addr) : It where
  go i H := ∃ (xs : List V) (x : V), SqS K H t a xs ∧ xs[i]? = some x
  yld i H v H' := ∃ T x, v = .ref T ∧ H T = none ∧ H' = upd H T (.tup [.int (i : Nat), x]) ∧ ∀ xs, SqS K H t a xs → xs[i]? = some x
  stop i H := ∃ xs : List V, SqS K H t a xs ∧ xs.length ≤ i
theorem enum_turns {P : Program} {w : World} {K : PySem.W.Frag} {elts : List Expr} {kk : Nat} {tpos : Pos} {t : Bool} {a e it : Addr} (ha : a ≠ it) (hae : a ≠ e) :
    Turn P w K (.Tuple elts kk tpos) (IteS K t a) [e, it] e (fun i h => (∃ old, IsEnum h e it ((i : Nat) : Int) old) ∧ SIt t h it a i ∧ e ≠ it) where
  mem := by simp
  obj := fun i h st b hb => by
    obtain ⟨⟨old, he⟩, hi, _⟩ := st
    have e' : b = e ∨ b = it := by simpa using hb
    rcases e' with z | z
    · rw [z]; exact ⟨_, he, fun v q => nomatch q⟩
    · rw [z]; exact L2.P3.SIt.cells hi
  keep := fun i h h' st k => let ⟨⟨old, he⟩, hi, hne⟩ := st; ⟨⟨old, k e (by simp) _ he⟩, hi.keepAt fun o q => k it (by simp) o q, hne⟩
  item := by
    rintro X rfl rfl rfl hc i pins s σ H E I hf ⟨⟨old, he⟩, hit, hne⟩ ⟨xs, x, hq, hx⟩
    obtain ⟨us, rv, hL, _⟩ := inv_side t I hq
    obtain ⟨u, hu, ru⟩ := rv.get hx
    have hel : e < s.heap.objs.size := Heap.lt_size he
    have hil := hit.size
    have hi : i < us.toArray.size := by
      have := (List.getElem?_eq_some_iff.mp hu).1
      simpa using this
    refine wpAny_pyNext_enum_itemD (draws_side (A := X.A.in1) (I.ok.hd hc) t it a ha us.toArray) he ⟨hit, hL⟩ hi hne (by simp [hne, Ne.symm hae]) fun x' h' tk hx' ho st' hT hsz hk => ?_
    obtain rfl : u = x' := by
      have h1 : us.toArray[i]? = some u := by simpa using hu
      have h2 : us.toArray[i]? = some x' := hx'
      rw [h1] at h2
      exact Option.some.inj h2
    refine ⟨_, rfl, wpAny_letOwnedTupleGo_enum (s := { s with heap := h', toks := tk + 1 }) ho fun h'' he' sb => ?_⟩
    have hT2 : h''.get? s.heap.objs.size = some { cls := .type "tuple", data := .seq #[.int i tk, u] } := (sb.2 _ (Nat.ne_of_gt hel)).trans hT
    have new : ObjOk X.prog X.w (upd H s.heap.objs.size (.tup [.int (i : Nat), x])) h'' s.heap.objs.size (.tup [.int (i : Nat), x]) :=
      ⟨by show 2 ≤ sizeLine; decide, [.int i tk, u], .cons ⟨_, rfl⟩ (.cons ru .nil), ⟨_, hT2, rfl, _, rfl⟩⟩
    have I1 : Inv X pins σ (upd H s.heap.objs.size (.tup [.int (i : Nat), x])) { s with heap := h'', toks := tk + 1 } :=
      I.turnedNew (ch := [e, it]) (fun b ob hb q => (sb.2 b (fun z => hb (by simp [z]))).trans (hk b ob (fun z => hb (by simp [z])) (fun z => hb (by simp [z])) q)) hf (Nat.le_refl _) new
    refine ⟨.ref s.heap.objs.size, _, I1, rfl, ⟨_, x, rfl, I.hok.fresh (Nat.le_refl _), rfl, fun ys hy => by rw [side_inj I hy hq]; exact hx⟩, ⟨⟨u, ?_⟩, st'.1.keepAt fun o q => (sb.2 it (Ne.symm hne)).trans q, hne⟩, fun b hb => ?_⟩
    · have e1 : ((i + 1 : Nat) : Int) = (i : Int) + 1 := by omega
      rw [e1]; exact he'
    · have hb' : b < s.heap.objs.size := by
        have e' : b = e ∨ b = it := by simpa using hb
        rcases e' with z | z
        · rw [z]; exact hel
        · rw [z]; exact hil
      rw [upd_ne (Nat.ne_of_lt hb')]
      exact (hf b hb).1
  done := by
    rintro X rfl rfl rfl hc i pins s σ H E I hf ⟨⟨old, he⟩, hit, hne⟩ ⟨xs, hq, hx⟩
    obtain ⟨us, rv, hL, _⟩ := inv_side t I hq
    obtain ⟨f0, f1, f2, f3, f4, f5⟩ := hf it (by simp)
    have hl := rv.length
    have D := draws_side (A := X.A.in1) (prog := X.prog) (w := X.w) (I.ok.hd hc) t it a ha us.toArray
    have hT : s.TypeIs (.ref e) "enumerate" := ⟨_, he, rfl⟩
    unfold pyNext
    refine wpAny_bind (wpAny_attempt (wpAny_callSpecial?_slot (name := Str.ofString "__next__") hT F.slot_enumerate_next
      (wpAny_call_entry F.slot_enumerate_next hT F.entry_enumerate_next ?_ (F.args_enumerate_next_1 _))))
    show wpAny _ _ (field (.ref e) 2 >>= _) _ _ _
    refine wpAny_bind (wpAny_field he rfl (x := .ref it) rfl ?_)
    refine wpAny_bind (side_end (A := X.A.in1) (I.ok.hd hc) hit hL (by simp; omega) fun h' x he' hx' => ?_)
    obtain ⟨o, ho, hcl⟩ := hx'
    refine wpAny_bind (wpAny_isInstance (T := "StopIteration") (b := true) ⟨o, ho, hcl⟩ isSubtype_stop ?_)
    exact wpAny_pure ⟨rfl, I.turned (t' := s.toks) (fun b o hb q => he' b o hb q) f0 f1 f3 f4 f5⟩
  self := fun A i s Q E st h => let ⟨⟨_, he⟩, _⟩ := st; wpAny_pyIter_enum he h
def iEnumS (K : PySem.W.Frag) (te : TE) : TI := fun σ H R => te σ H fun v H1 => ∃ t a xs, v = .ref a ∧ SqS K H1 t a xs ∧ R (IteS K t a) H1
theorem pi_enumS {X : Cx} {e : Expr} {te : TE} {p pos tpos : Pos} {elts : List Expr} {kk : Nat} (hg : Gl X "enumerate") (hm : X.mg "enumerate" = none) (he : PE X e te) (hs : starEach [e] X.env = (false, eval e X.env) :: starEach [] X.env := by rfl) :
    PI X (.Tuple elts kk tpos) (.Call (.Name "enumerate" p) [e] [] pos) (iEnumS X.K te) := by
  refine ⟨fun pins s σ H R I h => ?_⟩
  refine Call_ (ld_blt I hg hm boot_enumerate (PyProof.Rows.callWith_type1 (args_cons (thn (he.run pins s σ H _ I h) fun u s1 ⟨v, H1, I1, r1, q1⟩ => args_nil ?_) hs) hs rfl))
  obtain ⟨t, a, xs, rfl, hq, q⟩ := q1
  obtain rfl : u = Value.ref a := r1
  obtain ⟨us, rv, hL, hlt⟩ := inv_side t I1 hq
  refine enum_call hL fun h' hen hit hk => wpAny_pyIter_enum hen ?_
  have I2 : Inv X pins σ H1 { s1 with heap := h' } := I1.kept (t' := s1.toks) hk
  refine ⟨s1.heap.objs.size + 1, [s1.heap.objs.size + 1, s1.heap.objs.size], _, _, H1, rfl, I2, enum_turns (t := t) (a := a) (e := s1.heap.objs.size + 1) (it := s1.heap.objs.size) (Nat.ne_of_lt hlt) (Nat.ne_of_lt (Nat.lt_succ_of_lt hlt)), ⟨⟨.none, hen⟩, hit, Nat.succ_ne_self _⟩, fun b hb => ?_, q⟩
  have e' : b = s1.heap.objs.size + 1 ∨ b = s1.heap.objs.size := by simpa using hb
  have hle : s1.heap.objs.size ≤ b := by
    rcases e' with z | z
    · rw [z]; exact Nat.le_add_right _ _
    · rw [z]; exact Nat.le_refl _
  exact I1.fpOk hle (I1.hok.fresh hle)
/-- numbered items -/
def numd (xs : List PV) : List PV := xs.zipIdx.map fun p => .tup [.int (p.2 : Int), p.1]
theorem numd_get {xs : List PV} {k : Nat} {z : PV} (h : (numd xs)[k]? = some z) : ∃ x, xs[k]? = some x ∧ z = .tup [.int (k : Int), x] := by
  unfold numd at h
  rw [List.getElem?_map, List.getElem?_zipIdx] at h
  cases hx : xs[k]? with
  | none => rw [hx] at h; cases h
  | some x =>
    rw [hx] at h
    simp at h
    exact ⟨x, rfl, h.symm⟩
theorem numd_end {xs : List PV} {k : Nat} (h : (numd xs)[k]? = none) : xs.length ≤ k := by
  unfold numd at h
  simpa using h
section
variable {bk : BagKind} {K : PySem.W.Frag}
theorem itok_enum {M1 : Am} {S1 : Store} {H1 : Hp} {x : PV} {a : Addr} {xs : List PV} (s1 : Sto K bk M1 S1 H1) (rx : Rp K bk.root M1 H1 x (.ref a)) :
    ItOk bk K ⟨numd xs, fun S => its S x = some xs⟩ (IteS K (isTup x) a) M1 H1 := fun M S H k t s ck => by
  obtain ⟨a', vs, ea, qx, rxs⟩ := its_side s (rx.step s1 t) ck
  cases ea
  refine ⟨fun z e => ?_, fun e => ⟨vs, qx, by rw [rxs.length]; exact numd_end e⟩⟩
  obtain ⟨p, ep, rfl⟩ := numd_get e
  obtain ⟨u, eu, ru⟩ := rxs.get ep
  refine ⟨⟨vs, u, qx, eu⟩, fun v' H' yl => ?_⟩
  obtain ⟨T, p', rfl, hT, rfl, f1⟩ := yl
  have g1 := f1 vs qx
  rw [eu] at g1
  obtain rfl := Option.some.inj g1
  exact ⟨Step.laid hT, s.laid hT, to_tup (SqT.of upd_same) ((Rps.cons to_int (.cons ru .nil)).step s (Step.laid hT))⟩
end
def iEnum (f : PTE) : PTI := fun E ρ S R => f E ρ S fun x S1 => onO (its S1 x) fun xs => R ⟨numd xs, fun S => its S x = some xs⟩ S1
instance {f : PTE} [MoE f] : MoI (iEnum f) := ⟨fun h q => MoE.mo (f := f) (fun x _ q => onO_mo (fun _ q => h _ _ q) q) q⟩
theorem qi_enum {bk : BagKind} {X : Cx} {h : PTE} {a : Expr} {p pos tp : Pos} {es : List Expr} {c : Nat} (hg : Gl X "enumerate") (hm : X.mg "enumerate" = none) (ha : QE bk X a h)
    (he : starEach [a] X.env = (false, eval a X.env) :: starEach [] X.env := by rfl) : QI bk X (.Tuple es c tp) (.Call (.Name "enumerate" p) [a] [] pos) (iEnum h) := by
  obtain ⟨ta, pa, wa⟩ := ha.ex
  refine ⟨_, pi_enumS hg hm pa he, fun E M ρ S σ H R R' rel q k => ?_⟩
  refine wa E M ρ S σ H _ _ rel q fun M1 S1 H1 x v t1 s1 r1 q1 => ?_
  obtain ⟨xs, ex, q1⟩ := onO_ex q1
  obtain ⟨a, vs, rfl, qx, _⟩ := its_side s1 r1 ex
  exact ⟨_, a, vs, rfl, qx, k M1 S1 H1 _ _ t1 s1 (itok_enum s1 r1) q1⟩
/-- reversed of a list or a tuple -/
def iRevd (f : PTE) : PTI := fun E ρ S R => f E ρ S fun x S1 => onO (its S1 x) fun xs => R ⟨xs.reverse, fun S => its S x = some xs⟩ S1
instance {f : PTE} [MoE f] : MoI (iRevd f) := ⟨fun h q => MoE.mo (f := f) (fun x _ q => onO_mo (fun _ q => h _ _ q) q) q⟩
section
variable {bk : BagKind} {K : PySem.W.Frag}
theorem rev_at {α : Type} {xs : List α} {k : Nat} (h : k < xs.length) : xs.reverse[k]? = xs[xs.length - 1 - k]? := List.getElem?_reverse h
theorem itok_revL {M1 : Am} {S1 : Store} {H1 : Hp} {x : PV} {a : Addr} {xs : List PV} {n : Nat} (s1 : Sto K bk M1 S1 H1) (rx : Rp K bk.root M1 H1 x (.ref a)) (ht : isTup x = false) (hn : n = xs.length) :
    ItOk bk K ⟨xs.reverse, fun S => its S x = some xs⟩ (Itv K a n) M1 H1 := fun M S H k t s ck => by
  subst hn
  obtain ⟨a', vs, ea, qx, rxs⟩ := its_side s (rx.step s1 t) ck
  cases ea
  rw [ht] at qx
  refine ⟨fun z e => ?_, fun e => ?_⟩
  · have hk : k < xs.length := by simpa using (List.getElem?_eq_some_iff.mp e).1
    rw [rev_at hk] at e
    obtain ⟨u, eu, ru⟩ := rxs.get e
    refine ⟨⟨hk, vs, u, qx, eu⟩, fun v' H' yl => ?_⟩
    obtain ⟨rfl, f1⟩ := yl
    have g1 := f1 vs qx
    rw [eu] at g1
    obtain rfl := Option.some.inj g1
    exact ⟨.refl _ _, s, ru⟩
  · show xs.length ≤ k
    simpa using e
theorem itok_revT {M1 : Am} {S1 : Store} {H1 : Hp} {x : PV} {a : Addr} {xs : List PV} {n : Nat} (s1 : Sto K bk M1 S1 H1) (rx : Rp K bk.root M1 H1 x (.ref a)) (ht : isTup x = true) (hn : n = xs.length) :
    ItOk bk K ⟨xs.reverse, fun S => its S x = some xs⟩ (RT.ItvT K a n) M1 H1 := fun M S H k t s ck => by
  subst hn
  obtain ⟨a', vs, ea, qx, rxs⟩ := its_side s (rx.step s1 t) ck
  cases ea
  rw [ht] at qx
  refine ⟨fun z e => ?_, fun e => ?_⟩
  · have hk : k < xs.length := by simpa using (List.getElem?_eq_some_iff.mp e).1
    rw [rev_at hk] at e
    obtain ⟨u, eu, ru⟩ := rxs.get e
    refine ⟨⟨hk, vs, u, qx, eu⟩, fun v' H' yl => ?_⟩
    obtain ⟨rfl, f1⟩ := yl
    have g1 := f1 vs qx
    rw [eu] at g1
    obtain rfl := Option.some.inj g1
    exact ⟨.refl _ _, s, ru⟩
  · show xs.length ≤ k
    simpa using e
end
theorem qi_rev {bk : BagKind} {X : Cx} {h : PTE} {a : Expr} {tg : Expr} {p pos : Pos} (hg : Gl X "reversed") (hm : X.mg "reversed" = none) (ha : QE bk X a h)
    (he : starEach [a] X.env = (false, eval a X.env) :: starEach [] X.env := by rfl) : QI bk X tg (.Call (.Name "reversed" p) [a] [] pos) (iRevd h) := by
  obtain ⟨ta, pa, wa⟩ := ha.ex
  refine ⟨_, RT.pi_revA hg hm pa he, fun E M ρ S σ H R R' rel q k => ?_⟩
  refine wa E M ρ S σ H _ _ rel q fun M1 S1 H1 x v t1 s1 r1 q1 => ?_
  obtain ⟨xs, ex, q1⟩ := onO_ex q1
  obtain ⟨a, vs, rfl, qx, rxs⟩ := its_side s1 r1 ex
  cases ht : isTup x with
  | false =>
    rw [ht] at qx
    exact ⟨a, vs, rfl, .inl ⟨qx, k M1 S1 H1 _ _ t1 s1 (itok_revL s1 r1 ht rxs.length) q1⟩⟩
  | true =>
    rw [ht] at qx
    exact ⟨a, vs, rfl, .inr ⟨qx, k M1 S1 H1 _ _ t1 s1 (itok_revT s1 r1 ht rxs.length) q1⟩⟩
end L2.P3
/-! P3if: xs[::-1], xs.pop(i), n.bit_length(), str(n), xs[i] += e, ranges with a step. -/
namespace L2.P3
open PySem PySem.Spec PyProof.Rows L2 L2.P3.Z
/-! ### xs[::-1] -/
def tBack (K : PySem.W.Frag) (te : TE) (tk : TO) : TE := fun σ H Q => te σ H fun x H1 => tk σ H1 fun k H2 => k = some (-1) ∧ ∃ a xs, x = .ref a ∧ SqL K H2 a xs ∧ ∀ p, H2 p = none → Q (.ref p) (upd H2 p (.lst xs.reverse))
theorem pe_back {X : Cx} {e st : Expr} {te : TE} {tk : TO} {pos p2 : Pos} (he : PE X e te) (hk : PO X (some st) tk) : PE X (.Subscript e (.Slice none none (some st) p2) pos) (tBack X.K te tk) := by
  refine ⟨fun pins s σ H Q I h => ?_⟩
  refine Subscript_ (thn (he.run pins s σ H _ I h) fun v s1 ⟨x, H1, I1, r1, q1⟩ => ?_)
  refine wpAny_Slice ?_
  rw [evalPart_none]
  refine wpAny_pure (wpAny_pure ?_)
  refine thn (hk.run pins s1 σ H1 _ I1 q1) fun vk s2 ⟨k, H2, I2, pk, q2⟩ => ?_
  obtain ⟨rfl, a, xs, rfl, hx, q⟩ := q2
  have I3 : Inv X pins σ H2 { s2 with heap := s2.heap.push { cls := .type "slice", data := .fields #[.none, .none, vk] } } := I2.kept (t' := s2.toks) fun b ob q => Heap.get?_push_of_some _ q
  have hs : (s2.heap.push { cls := .type "slice", data := .fields #[.none, .none, vk] }).IsSliceOf s2.heap.objs.size .none .none vk := Heap.IsSliceOf.new ..
  obtain rfl : v = Value.ref a := r1
  obtain ⟨its, r, ht, hz⟩ := I3.list hx
  have hlen := r.length
  show wpAny (model X.prog X.w) X.A (subscriptTail e (.Slice none none (some st) p2) (.ref a) (.ref s2.heap.objs.size)) (EP X pins σ Q) X.xe { s2 with heap := s2.heap.push { cls := .type "slice", data := .fields #[.none, .none, vk] } }
  refine tail_any (ops := [.ref a, .ref s2.heap.objs.size]) ht.isList.typeIs slot_list_getitem.lookup ?_ (by with_unfolding_all rfl)
  refine wpAny_getItem_list_slice ht.isList hs .none .none pk (by simp) ?_ (by rw [List.size_toArray] <;> omega)
  rw [PySem.W.krv_pick]
  refine ⟨.ref _, _, I3.laid (t' := s2.toks) (o := .lst xs.reverse) (fun b ob q => Heap.get?_push_of_some _ q) (Nat.le_refl _) ?_, rfl, q _ (I3.hok.fresh (Nat.le_refl _))⟩
  exact ⟨by rw [List.length_reverse]; exact hz, _, 0, r.reverse, Heap.get?_push_size _ rfl⟩
def pBack (f : PTE) (k : PTO) : PTE := fun E ρ S Q => f E ρ S fun x S1 => k E ρ S1 fun i S2 => i = some (-1) ∧ onO (itsL S2 x) fun xs => Q (.lst S2.length) (S2 ++ [xs.reverse])
instance {f : PTE} {k : PTO} [MoE f] [MoO k] : MoE (pBack f k) := ⟨fun h q => MoE.mo (f := f) (fun x _ q => MoO.mo (f := k) (fun i _ q => ⟨q.1, onO_mo (fun _ q => h _ _ q) q.2⟩) q) q⟩
theorem q_back {bk : BagKind} {X : Cx} {e st : Expr} {f : PTE} {k : PTO} {pos p2 : Pos} (he : QE bk X e f) (hk : QO bk X (some st) k) : QE bk X (.Subscript e (.Slice none none (some st) p2) pos) (pBack f k) := by
  obtain ⟨ta, pa, wa⟩ := he.ex
  obtain ⟨tb, pb, wb⟩ := hk.ex
  refine ⟨_, pe_back pa pb, fun E M ρ S σ H Q Q' R q p => ?_⟩
  refine wa E M ρ S σ H _ _ R q fun M1 S1 H1 x v t1 s1 r1 q1 => ?_
  refine wb E M1 ρ S1 σ H1 _ _ (R.step t1 s1) q1 fun M2 S2 H2 l t2 s2 q2 => ?_
  obtain ⟨e0, q2⟩ := q2
  obtain ⟨xs, ex, q2⟩ := onO_ex q2
  obtain ⟨a, vs, rfl, hq, sv⟩ := itsL_sq s2 (r1.step s1 t2) ex
  exact ⟨e0, a, vs, rfl, hq, (p.after (t1.trans t2)).lst s2 (Rps.reverse sv) q2⟩
/-! ### xs.pop(i) -/
def pPopAt (f g : PTE) : PTE := fun E ρ S Q => f E ρ S fun x S1 => match x with
  | .lst n => g E ρ S1 fun y S2 => onInt y fun i => onO S2[n]? fun xs => (0 ≤ i ∧ i < 2 ^ 62) ∧ onO xs[i.toNat]? fun z => Q z (S2.set n (xs.eraseIdx i.toNat))
  | _ => False
instance {f g : PTE} [MoE f] [MoE g] : MoE (pPopAt f g) := ⟨fun h q => MoE.mo (f := f) (fun x _ q => by
  cases x <;> first | exact q.elim | exact MoE.mo (f := g) (fun y _ q => onInt_mo (fun _ q => onO_mo (fun _ q => ⟨q.1, onO_mo (fun _ q => h _ _ q) q.2⟩) q) q) q) q⟩
theorem Rps.erase {K : PySem.W.Frag} {M : Am} {H : Hp} {r : Nat} : ∀ {xs : List PV} {vs : List V} (n : Nat), Rps K r M H xs vs → Rps K r M H (xs.eraseIdx n) (vs.eraseIdx n)
  | [], vs, n, h => by rw [Rps] at h; subst h; exact .nil
  | x :: xs, vs, 0, h => by
    rw [Rps] at h
    obtain ⟨v, ws, rfl, _, h2⟩ := h
    exact h2
  | x :: xs, vs, n + 1, h => by
    rw [Rps] at h
    obtain ⟨v, ws, rfl, h1, h2⟩ := h
    exact .cons h1 (Rps.erase n h2)
theorem q_popAt {bk : BagKind} {X : Cx} {o e : Expr} {f g : PTE} {apos cpos : Pos} (ho : QE bk X o f) (he : QE bk X e g)
    (hbase : attributeBase o "pop" X.env (eval o X.env) = eval o X.env := by rfl)
    (hfew : ((backTo cpos (starEach [e] X.env)).all (fun x => !x.1) && (backToKw cpos (keywordEach [] X.env)).all (fun x => x.1.isSome)
      && decide (([e] : List Expr).length + ([] : List Keyword).length + (if ([] : List Keyword).isEmpty then 0 else 1) < 30)) = true := by rfl)
    (hline : (apos.endLine == cpos.line) = true := by rfl) (hs : starEach [e] X.env = (false, eval e X.env) :: starEach [] X.env := by rfl) (hplain : (backTo cpos (starEach [] X.env)).any (·.1) = false := by rfl) :
    QE bk X (.Call (.Attribute o "pop" apos) [e] [] cpos) (pPopAt f g) := by
  obtain ⟨ta, pa, wa⟩ := ho.ex
  obtain ⟨tb, pb, wb⟩ := he.ex
  refine ⟨_, pe_bm PySem.F.plainAttrs_list PySem.F.slot_list_pop PySem.F.type_list_pop mt_popAt pa (pa_cons pb pa_nil hs) hbase hfew hline hs hplain, fun E M ρ S σ H Q Q' R q p => ?_⟩
  refine wa E M ρ S σ H _ _ R q fun M1 S1 H1 x v t1 s1 r1 q1 => ?_
  cases x <;> first | exact q1.elim | skip
  rename_i n
  obtain ⟨a, ea, rfl⟩ := rp_lst r1
  refine ⟨s1.tyL ea, wb E M1 ρ S1 σ H1 _ _ (R.step t1 s1) q1 fun M2 S2 H2 y w t2 s2 r2 q2 => ?_⟩
  obtain ⟨i, rfl, q2⟩ := onInt_ex q2
  obtain ⟨xs, e1, ⟨h0, h1⟩, q2⟩ := onO_ex q2
  obtain ⟨z, ez, q2⟩ := onO_ex q2
  have ea2 := t2.at ea
  obtain ⟨vs, hv, sv⟩ := s2.lst ea2 e1
  obtain ⟨t3, s3⟩ := s2.write ea2 (sv.erase i.toNat)
  obtain ⟨u, eu, ru⟩ := sv.get ez
  have hl := (List.getElem?_eq_some_iff.mp eu).1
  rw [rp_int r2]
  refine ⟨a, vs, i, i.toNat, u, rfl, rfl, hv, by omega, by omega, ?_, eu, p _ _ _ _ _ (t1.trans (t2.trans t3)) s3 (ru.step s2 t3) q2⟩
  unfold seqIndex?
  dsimp only
  rw [if_neg (show ¬ i < 0 by omega)]
  have hb : (decide (0 ≤ i) && decide (i < (vs.length : Int))) = true := by simp; omega
  rw [hb]
  rfl
/-! ### n.bit_length() -/
def pBits (f : PTE) : PTE := fun E ρ S Q => f E ρ S fun x S1 => onInt x fun i => Q (.int (Builtin.Int.intBits i : Nat)) S1
instance {f : PTE} [MoE f] : MoE (pBits f) := ⟨fun h q => MoE.mo (f := f) (fun x _ q => onInt_mo (fun _ q => h _ _ q) q) q⟩
theorem q_bits {bk : BagKind} {X : Cx} {o : Expr} {f : PTE} {apos pos : Pos} (ho : QE bk X o f) (hbase : attributeBase o "bit_length" X.env (eval o X.env) = eval o X.env := by rfl) (hline : (apos.endLine == pos.line) = true := by rfl) :
    QE bk X (.Call (.Attribute o "bit_length" apos) [] [] pos) (pBits f) := by
  obtain ⟨ta, pa, wa⟩ := ho.ex
  refine ⟨_, pe_bits pa hbase hline, fun E M ρ S σ H Q Q' R q p => ?_⟩
  refine wa E M ρ S σ H _ _ R q fun M1 S1 H1 x v t1 s1 r1 q1 => ?_
  obtain ⟨i, rfl, q1⟩ := onInt_ex q1
  rw [rp_int r1]
  exact ⟨i, rfl, p _ _ _ _ _ t1 s1 to_int q1⟩
theorem bits_le {i : Int} {n : Nat} (h : Sz n i) : Builtin.Int.intBits i ≤ n := by
  unfold Builtin.Int.intBits
  split
  · omega
  · rename_i h0
    have h0 : i.natAbs ≠ 0 := by simpa using h0
    have := (Nat.log2_lt h0).mpr h
    omega
theorem bits_lt (i : Int) : Sz (Builtin.Int.intBits i) i := by
  unfold Builtin.Int.intBits Sz
  split
  · rename_i h
    have h : i = 0 := by simpa using h
    subst h
    decide
  · exact Nat.lt_log2_self
theorem bits_pos {i : Int} (h : i ≠ 0) : 1 ≤ Builtin.Int.intBits i ∧ 2 ^ (Builtin.Int.intBits i - 1) ≤ i.natAbs := by
  unfold Builtin.Int.intBits
  rw [if_neg (by simpa using h)]
  exact ⟨by omega, by rw [Nat.add_sub_cancel]; exact Nat.log2_self_le (by omega)⟩
/-! ### str(n) -/
def oStr : PCl := fun xs S Q => match xs with | [.int i] => i.natAbs.log2 < 1920 ∧ Q (.str (toString i)) S | _ => False
instance : MoC oStr := ⟨fun h q => by unfold oStr at q ⊢; split at q <;> first | exact ⟨q.1, h _ _ q.2⟩ | exact q.elim⟩
theorem oStrP {bk : BagKind} {K : PySem.W.Frag} : ClP bk K (fun xs H Q => ∃ i, xs = [.int i] ∧ i.natAbs.log2 < 1920 ∧ Q (.str (toString i)) H) oStr := fun M S H x v Q Q' s r q p => by
  unfold oStr at q
  split at q
  · obtain ⟨v, rfl, z⟩ := rps1 r
    rw [rp_int z]
    exact ⟨_, rfl, q.1, p M S H _ _ (.refl M H) s to_str q.2⟩
  · exact q.elim
end L2.P3
namespace L2.P3
open PySem PySem.Spec PyProof.Rows L2 L2.P3.Z
/-! ### for i in range(a, b, c) -/
theorem itok_rngC {bk : BagKind} {K : PySem.W.Frag} {M0 : Am} {H0 : Hp} {lo c : Int} {n : Nat} : ItOk bk K ⟨(List.range n).map fun (k : Nat) => PV.int (lo + k * c), fun _ => True⟩ (Itc lo c n) M0 H0 := fun M S H k t s _ => by
  refine ⟨fun x e => ?_, fun e => ?_⟩
  · have hk : k < n := by simpa using (List.getElem?_eq_some_iff.mp e).1
    rw [List.getElem?_map, List.getElem?_range hk] at e
    cases e
    refine ⟨hk, fun v H' yl => ?_⟩
    obtain ⟨rfl, rfl⟩ := yl
    exact ⟨.refl _ _, s, to_int⟩
  · show n ≤ k
    simpa using e
/-- the number of turns, for a step that is written -/
def rngC (i j c : Int) : Nat := (Builtin.Range.rangeSize i j c).toNat
def RgS (i j c : Int) : Prop := RgC i j c (rngC i j c)
def iRange3 (f g h : PTE) : PTI := fun E ρ S R => f E ρ S fun x S1 => g E ρ S1 fun y S2 => h E ρ S2 fun z S3 => onInt x fun i => onInt y fun j => onInt z fun c => ∃ n, RgC i j c n ∧ R ⟨(List.range n).map fun (k : Nat) => PV.int (i + k * c), fun _ => True⟩ S3
instance {f g h : PTE} [MoE f] [MoE g] [MoE h] : MoI (iRange3 f g h) := ⟨fun k q => MoE.mo (f := f) (fun _ _ q => MoE.mo (f := g) (fun _ _ q => MoE.mo (f := h) (fun _ _ q => onInt_mo (fun _ q => onInt_mo (fun _ q => onInt_mo (fun _ ⟨n, a, b⟩ => ⟨n, a, k _ _ b⟩) q) q) q) q) q) q⟩
theorem qi_range3 {bk : BagKind} {X : Cx} {f g h : PTE} {tg a b c : Expr} {p pos : Pos} (hg : Gl X "range") (hm : X.mg "range" = none) (ha : QE bk X a f) (hb : QE bk X b g) (hc : QE bk X c h)
    (hs : starEach [a, b, c] X.env = (false, eval a X.env) :: starEach [b, c] X.env := by rfl) (hs2 : starEach (b :: [c]) X.env = (false, eval b X.env) :: starEach [c] X.env := by rfl) (hs3 : starEach (c :: []) X.env = (false, eval c X.env) :: starEach [] X.env := by rfl) (hpl : (backTo pos (starEach [b, c] X.env)).any (·.1) = false := by rfl) :
    QI bk X tg (.Call (.Name "range" p) [a, b, c] [] pos) (iRange3 f g h) := by
  obtain ⟨ta, pa, wa⟩ := ha.ex
  obtain ⟨tb, pb, wb⟩ := hb.ex
  obtain ⟨tc, pc, wc⟩ := hc.ex
  refine ⟨_, pi_range3 hg hm (pa_cons pa (pa_cons pb (pa_cons pc pa_nil hs3) hs2) hs) hs hpl, fun E M ρ S σ H R R' rel q k => ?_⟩
  refine wa E M ρ S σ H _ _ rel q fun M1 S1 H1 x v t1 s1 r1 q1 => ?_
  refine wb E M1 ρ S1 σ H1 _ _ (rel.step t1 s1) q1 fun M2 S2 H2 y w t2 s2 r2 q2 => ?_
  refine wc E M2 ρ S2 σ H2 _ _ (rel.step (t1.trans t2) s2) q2 fun M3 S3 H3 z u t3 s3 r3 q3 => ?_
  obtain ⟨i, rfl, q3⟩ := onInt_ex (x := x) q3
  obtain ⟨j, rfl, q3⟩ := onInt_ex (x := y) q3
  obtain ⟨c, rfl, n, hn, q3⟩ := onInt_ex (x := z) q3
  rw [rp_int r1, rp_int r2, rp_int r3]
  exact ⟨i, j, c, n, rfl, hn, k M3 S3 H3 _ _ (t1.trans (t2.trans t3)) s3 itok_rngC q3⟩
/-! ### xs[i] += e, xs a list -/
theorem get_list {X : Cx} : PGet X (rIxL X.K) := by
  intro pins s σ H x y v u Q I rx ry h
  obtain ⟨p, xs, i, z, rfl, rfl, hq, he, q⟩ := h
  cases rx
  obtain ⟨t, rfl⟩ := ry
  obtain ⟨its, r, pl, hz⟩ := I.list hq
  obtain ⟨j, h1, h2, h3, h4, h5⟩ := atI_get he
  obtain ⟨w, ew, rw'⟩ := r.get h2
  have hl := r.length
  have hn := line63
  have fin : EP X pins σ Q w s := ⟨z, H, I, rw', q⟩
  by_cases h0 : 0 ≤ i
  · have hj : i.toNat = j := by
      rw [seqIndex_of h0 h5] at h1
      exact Option.some.inj h1
    exact wpAny_getItem_list pl.isList h0 (by omega) (by rw [hj]; simpa using ew) fin
  · have hj : (i + (its.toArray.size : Int)).toNat = j := by
      rw [seqIndex_neg (by omega) h4] at h1
      rw [List.size_toArray, ← hl]
      exact Option.some.inj h1
    exact wpAny_getItem_list_neg pl.isList (by omega) (by rw [List.size_toArray] <;> omega) (by omega) (by rw [hj]; simpa using ew) fin
def pAugIx (f g : PTE) (o : PO2) (h : PTE) : PTS := fun E D ρ S => f E ρ S fun x S1 => g E ρ S1 fun y S2 => match x, y with
  | .lst n, .int i => onO S2[n]? fun xs => onO (atI xs i) fun z => h E ρ S2 fun e S3 => o z e S3 fun r S4 => onO S4[n]? fun ys => onO (setI ys i r) fun zs => D.nx ρ (S4.set n zs)
  | _, _ => False
instance {f g h : PTE} {o : PO2} [MoE f] [MoE g] [MoE h] [Mo2 o] : MoS (pAugIx f g o h) := ⟨fun k q => MoE.mo (f := f) (fun x _ q => MoE.mo (f := g) (fun y _ q => by
  split at q
  · exact onO_mo (fun _ q => onO_mo (fun _ q => MoE.mo (f := h) (fun _ _ q => Mo2.mo (o := o) (fun _ _ q => onO_mo (fun _ q => onO_mo (fun _ q => k.nx _ _ q) q) q) q) q) q) q
  · exact q.elim) q) q⟩
theorem q_augIx {bk : BagKind} {X : Cx} {a b e : Expr} {f g h : PTE} {o : PO2} {ti : TIp} {op : Operator} {tpos pos : Pos} (ha : QE bk X a f) (hb : QE bk X b g) (he : QE bk X e h) (ho : OpR X (inplaceOp op) ti) (hp : OpP bk X.K ti o)
    (hh : ∀ ov iv new, augStore b ov iv new = (do holding [new, ov, iv] (setItem ov iv new); release [new, ov, iv] []; pure .next) := by intros; rfl) : QS bk X (.AugAssign (.Subscript a b tpos) op e pos) (pAugIx f g o h) := by
  obtain ⟨ta, pa, wa⟩ := ha.ex
  obtain ⟨tb, pb, wb⟩ := hb.ex
  obtain ⟨tc, pc, wc⟩ := he.ex
  refine ⟨_, ps_augS pa pb get_list pc ho set_list hh, fun E M ρ S σ H D D' R q p => ?_⟩
  refine wa E M ρ S σ H _ _ R q fun M1 S1 H1 x v t1 s1 r1 q1 => ?_
  refine wb E M1 ρ S1 σ H1 _ _ (R.step t1 s1) q1 fun M2 S2 H2 y w t2 s2 r2 q2 => ?_
  cases x <;> cases y <;> first | exact q2.elim | skip
  rename_i n i
  obtain ⟨xs, e1, q2⟩ := onO_ex q2
  obtain ⟨z, e2, q2⟩ := onO_ex q2
  obtain ⟨l, el, rfl⟩ := rp_lst (r1.step s1 t2)
  obtain ⟨vs, h1, sl⟩ := s2.lst el e1
  rw [rp_int r2]
  obtain ⟨u, eu, ru⟩ := sl.atI e2
  refine ⟨l, vs, i, u, rfl, rfl, SqL.of h1, eu, ?_⟩
  have t12 := t1.trans t2
  refine wc E M2 ρ S2 σ H2 _ _ (R.step t12 s2) q2 fun M3 S3 H3 y3 w3 t3 s3 r3 q3 => ?_
  refine hp M3 S3 H3 z y3 u w3 _ _ s3 (ru.step s2 t3) r3 q3 fun M4 S4 H4 y4 w4 t4 s4 r4 q4 => ?_
  obtain ⟨ys, e3, q4⟩ := onO_ex q4
  obtain ⟨zs, e4, q4⟩ := onO_ex q4
  unfold setI at e4
  obtain ⟨j, e5, rfl⟩ := Option.map_eq_some_iff.mp e4
  have el4 := (el.at t3).at t4
  obtain ⟨ws, h4, sl4⟩ := s4.lst el4 e3
  refine ⟨l, ws, i, j, rfl, rfl, h4, by rw [sl4.length]; exact e5, ?_⟩
  obtain ⟨t5, s5⟩ := s4.write el4 (sl4.set j r4)
  have tt := t12.trans (t3.trans (t4.trans t5))
  exact p.nx _ _ _ _ _ tt (R.step tt s5) q4
end L2.P3
/-! P3ig: any, all of a generator expression. -/
namespace L2.P3
open PySem PySem.Spec PyProof.Rows GenW L2
def PnA (a : Addr) (go : Obj) (_ : Unit) (ps : List (Addr × Obj)) : Prop := ps = [(a, go)]
def CnA (stop : Bool) (Stop : Hp → Prop) (_ : Unit) (y : V) (H : Hp) (Nx : Unit → Hp → Prop) : Prop := ∃ b, y = .bl b ∧ (b = stop → Stop H) ∧ (b = !stop → Nx () H)
def anyId : Bool → String
  | true => "any.loop"
  | false => "all.loop"
section
variable {Y : Cx} {σ1 : St} {tn : Nat → Heap → Prop} {fp : List Addr} {Fin Stop : Hp → Prop} {a : Addr} {go : Obj} {g : Nat}
theorem GSp.gens {ps : List (Addr × Obj)} {i : Nat} {H : Hp} {s : Shared} {g' : Array GenState} (x : GSp Y σ1 tn fp ps i H s) (h : AllBare g') : GSp Y σ1 tn fp ps i H { s with gens := g' } := ⟨inv_gens x.inv h, x.at_, x.free⟩
theorem any_loop {A : Around} {Rr : Result → Shared → Prop} (stop : Bool) (hh : A.handled = none) (hroom : A.depth < recursionLimit) (hgen : ∀ h : Heap, h.get? a = some go → h.IsGen a g)
    (hS : ∀ s' ps H, PnA a go () ps → Inv Y ps σ1 H s' → Stop H → Rr (.ok (.ret (.bool stop))) s') (hR : ∀ s' ps H, PnA a go () ps → Inv Y ps σ1 H s' → Fin H → Rr (.ok (.ret (.bool (!stop)))) s') :
    ∀ (n i : Nat) (ps : List (Addr × Obj)) (s : Shared) (H : Hp) (gs : GenState), PnA a go () ps → GSp Y σ1 tn fp ps i H s → s.gens[g]? = some gs →
      (∀ s'', GSp Y σ1 tn fp ps i H s'' → gs.Goes (model Y.prog Y.w) A.in1.in1 (GEnd Y σ1 (PnA a go) fun _ => Fin) (GYp Y σ1 tn fp (PnA a go) (CnA stop Stop)) n (.send .none) s'') →
      codeAny (model Y.prog Y.w) A (.builtin (anyId stop) ⟨[.ref a], []⟩) Rr s := by
  intro n
  induction n using Nat.strongRecOn with
  | ind n ih =>
  intro i ps s H gs hp hs hgs hgo
  obtain rfl : ps = [(a, go)] := hp
  have gs0 := hs
  obtain ⟨I, st0, n0⟩ := hs
  have ha := (I.pin (a, go) (List.mem_append_right _ (by simp))).1
  have hgl : g < s.gens.size := (Array.getElem?_eq_some_iff.mp hgs).1
  have bare1 : ∀ {x : GenState}, x.bare = true → AllBare (s.setGen g x).gens := fun hx => allBare_setGen I.bare hx
  -- the turn: what is told, or the end
  have step : ∀ {Q : Option Value → Shared → Prop} {E : Value → Shared → Prop},
      (∀ (b : Bool) (s1 : Shared) (gs' : GenState), gs'.bare = true → g < s1.gens.size → ∀ (ps1 : List (Addr × Obj)) (i1 : Nat) (H1 : Hp) (Nx : Unit → Hp → Prop), PnA a go () ps1 → GSp Y σ1 tn fp ps1 (i1 + 1) H1 s1 → (b = stop → Stop H1) → (b = !stop → Nx () H1) →
        (∀ (acc' : Unit) (ps' : List (Addr × Obj)) (s'' : Shared), Nx acc' H1 → PnA a go acc' ps' → GSp Y σ1 tn fp ps' (i1 + 1) H1 s'' → ∃ m, n = m + 1 ∧ gs'.Goes (model Y.prog Y.w) A.in1.in1 (GEnd Y σ1 (PnA a go) fun _ => Fin) (GYp Y σ1 tn fp (PnA a go) (CnA stop Stop)) m (.send .none) s'') → Q (some (.bool b)) (s1.setGen g gs')) →
      (∀ s1 ps1 H1, PnA a go () ps1 → Inv Y ps1 σ1 H1 s1 → Fin H1 → ∀ h', (∀ b o, s1.heap.get? b = some o → h'.get? b = some o) → Q none { s1.setGen g .finished with heap := h' }) →
      wpAny (model Y.prog Y.w) A.in1 (pyNext (.ref a)) Q E s := by
    intro Q E hY hN
    refine wpAny_mono (wpAny_gsz (n := g + 1) hgl (wpAny_pyNext_genexpQ (A := A.in1) (P := GFin Y σ1 (PnA a go) fun _ => Fin) (Y := GYp Y σ1 tn fp (PnA a go) (CnA stop Stop)) (n := n) (Q := fun o s' => g + 1 ≤ s'.gens.size → Q o s') hh I.nolimit hroom (hgen _ ha) hgs
      (hgo _ ⟨inv_gens I (bare1 rfl), st0, n0⟩) (fun v s1 gs' hbare hv => ?_) (fun s1 hf h' hk => ?_))) (fun o s' h => h) fun _ _ h => h
    · intro hsz
      obtain ⟨⟨⟩, i1, y, H1, Nx, ps1, rv, hp1, held, gs1, ⟨b, rfl, h1, h2⟩, kap⟩ := hv
      obtain rfl : v = Value.bool b := rv
      have hsz1 : g < s1.gens.size := by
        have q : (s1.setGen g gs').gens.size = s1.gens.size := setGen_size _ _ _
        have hsz' : g + 1 ≤ (s1.setGen g gs').gens.size := hsz
        omega
      refine hY b s1 gs' hbare hsz1 ps1 i1 H1 Nx hp1 gs1 h1 h2 fun acc' ps' s'' a1 a2 a3 => ?_
      have q := kap acc' ps' s'' a1 a2 a3
      clear kap hgo ih
      cases n with
      | zero => exact False.elim q
      | succ m => exact ⟨m, rfl, q⟩
    · intro _
      obtain ⟨⟨⟩, ps1, H1, hp1, held, I1, hfin⟩ := hf
      exact hN s1 ps1 H1 hp1 I1 hfin h' hk
  have next : ∀ (s1 : Shared) (gs' : GenState), gs'.bare = true → g < s1.gens.size → ∀ (ps1 : List (Addr × Obj)) (i1 : Nat) (H1 : Hp) (Nx : Unit → Hp → Prop), PnA a go () ps1 → GSp Y σ1 tn fp ps1 (i1 + 1) H1 s1 → Nx () H1 →
        (∀ (acc' : Unit) (ps' : List (Addr × Obj)) (s'' : Shared), Nx acc' H1 → PnA a go acc' ps' → GSp Y σ1 tn fp ps' (i1 + 1) H1 s'' → ∃ m, n = m + 1 ∧ gs'.Goes (model Y.prog Y.w) A.in1.in1 (GEnd Y σ1 (PnA a go) fun _ => Fin) (GYp Y σ1 tn fp (PnA a go) (CnA stop Stop)) m (.send .none) s'') →
        codeAny (model Y.prog Y.w) A (.builtin (anyId stop) ⟨[.ref a], []⟩) Rr (s1.setGen g gs') := by
    intro s1 gs' hbare hsz1 ps1 i1 H1 Nx hp1 gs1 nx kap
    have gs2 : GSp Y σ1 tn fp ps1 (i1 + 1) H1 (s1.setGen g gs') := gs1.gens (allBare_setGen gs1.inv.bare hbare)
    have hgs1 : (s1.setGen g gs').gens[g]? = some gs' := setGen_at hsz1
    obtain ⟨m, hm, _⟩ := kap () _ _ nx hp1 gs2
    refine ih m (by omega) (i1 + 1) _ _ H1 gs' hp1 gs2 hgs1 fun s'' hs'' => ?_
    obtain ⟨m', hm', q⟩ := kap () _ s'' nx hp1 hs''
    obtain rfl : m' = m := by omega
    exact q
  have over : ∀ s1 ps1 H1, PnA a go () ps1 → Inv Y ps1 σ1 H1 s1 → Fin H1 → ∀ h', (∀ b o, s1.heap.get? b = some o → h'.get? b = some o) → Rr (.ok (.ret (.bool (!stop)))) { s1.setGen g .finished with heap := h' } := fun s1 ps1 H1 hp1 I1 hfin h' hk =>
    hR _ ps1 H1 hp1 (inv_gens (I1.kept (t' := s1.toks) hk) (allBare_setGen I1.bare rfl)) hfin
  cases stop with
  | true =>
    show codeAny (model Y.prog Y.w) A (.builtin "any.loop" ⟨[.ref a], []⟩) Rr s
    refine codeAny_builtin F.entry_any_loop ?_
    rw [Around.under_plainId F.plain_any_loop _]
    show wpAny _ A.in1 (pyNext (.ref a) >>= _) _ _ s
    refine wpAny_bind (step (fun b s1 gs' hbare hsz1 ps1 i1 H1 Nx hp1 gs1 h1 h2 kap => ?_) fun s1 ps1 H1 hp1 I1 hfin h' hk => ?_)
    · refine wpAny_bind (wpAny_holding (wpAny_truthy_bool ?_))
      refine wpAny_bind (wpAny_letGo ?_)
      cases b with
      | true =>
        rw [if_pos rfl]
        exact wpAny_bind (wpAny_rule (wpAny_pure (hS _ ps1 H1 hp1 (inv_gens gs1.inv (allBare_setGen gs1.inv.bare hbare)) (h1 rfl))))
      | false =>
        rw [if_neg Bool.false_ne_true]
        exact wpAny_pure ⟨plainId_quiet F.plain_any_loop _, next s1 gs' hbare hsz1 ps1 i1 H1 Nx hp1 gs1 (h2 rfl) kap⟩
    · exact wpAny_bind (wpAny_rule (wpAny_pure (over s1 ps1 H1 hp1 I1 hfin h' hk)))
  | false =>
    show codeAny (model Y.prog Y.w) A (.builtin "all.loop" ⟨[.ref a], []⟩) Rr s
    refine codeAny_builtin F.entry_all_loop ?_
    rw [Around.under_plainId F.plain_all_loop _]
    show wpAny _ A.in1 (pyNext (.ref a) >>= _) _ _ s
    refine wpAny_bind (step (fun b s1 gs' hbare hsz1 ps1 i1 H1 Nx hp1 gs1 h1 h2 kap => ?_) fun s1 ps1 H1 hp1 I1 hfin h' hk => ?_)
    · refine wpAny_bind (wpAny_holding (wpAny_truthy_bool ?_))
      refine wpAny_bind (wpAny_letGo ?_)
      cases b with
      | false =>
        rw [if_neg Bool.false_ne_true]
        exact wpAny_bind (wpAny_rule (wpAny_pure (hS _ ps1 H1 hp1 (inv_gens gs1.inv (allBare_setGen gs1.inv.bare hbare)) (h1 rfl))))
      | true =>
        rw [if_pos rfl]
        exact wpAny_pure ⟨plainId_quiet F.plain_all_loop _, next s1 gs' hbare hsz1 ps1 i1 H1 Nx hp1 gs1 (h2 rfl) kap⟩
    · exact wpAny_bind (wpAny_rule (wpAny_pure (over s1 ps1 H1 hp1 I1 hfin h' hk)))
end
/-- any, all: the reading -/
def tAnyG (stop : Bool) (P : Addr) (wi : TI) (g : TG) (tt : TT) (te : TE) (vs : List Nat) : TE := fun σ H Q => wi σ H fun J H1 => GxR.TabG H1 P ∧ ∀ H2, GxR.Tabbed P H1 H2 →
  ∃ W : Nat → Unit → Nat → Hp → Prop, (∃ m, W 0 () m H2) ∧ GTurn J g tt te vs σ W (CnA stop fun H => Q (.bl stop) H) fun _ H => Q (.bl (!stop)) H
section
variable {X : Cx} {c P : Addr} {elt tg iter : Expr} {ifs : List Expr} {scope : Scope} {own : List (Str × Nat)} {p pos gpos : Pos} {wi : TI} {g : TG} {tt : TT} {te : TE} {k : Nat}
theorem pe_anyG (hr : Room (k + 1) X.A) (hc : X.calm = true) (hN : X.N.Nodup) (hgl : Gl X "any") (hm : X.mg "any" = none) (TB : GxR.TabB X.base X.mg c P) (hcode : X.env.code = .ref c) (hco : scope.isCoroutine = false) (hcell : ∀ y ∈ scope.names, y.2 ≠ .cell)
    (hdot : scope.names.lookup (".0" : Str) = some NameKind.local) (ok : BlkOk X.N X.env.scope scope own) (hi : PI X tg iter wi)
    (hg : ∀ (s : Shared) (H : Hp) (cl : List (Str × Addr)) (C : Addr) (code : Value) (bi : Addr) (fp : List Addr) (A' : Around), Room k A' → PG (gblk X s H scope (genEnv scope cl C code bi X.env) fp A') tg g)
    (ht : ∀ (s : Shared) (H : Hp) (cl : List (Str × Addr)) (C : Addr) (code : Value) (bi : Addr) (fp : List Addr) (A' : Around), Room k A' → PTs (gblk X s H scope (genEnv scope cl C code bi X.env) fp A') ifs tt)
    (hel : ∀ (s : Shared) (H : Hp) (cl : List (Str × Addr)) (C : Addr) (code : Value) (bi : Addr) (fp : List Addr) (A' : Around), Room k A' → PE (gblk X s H scope (genEnv scope cl C code bi X.env) fp A') elt te)
    (hs : ∀ v, genFold iter X.env v = pure v)
    (he : starEach [.GeneratorExp elt [⟨tg, iter, ifs, 0⟩] scope gpos] X.env = (false, eval (.GeneratorExp elt [⟨tg, iter, ifs, 0⟩] scope gpos) X.env) :: starEach [] X.env := by rfl) :
    PE X (.Call (.Name "any" p) [.GeneratorExp elt [⟨tg, iter, ifs, 0⟩] scope gpos] [] pos) (tAnyG true P wi g tt te (own.map (·.2))) := by
  refine ⟨fun pins s σ H Q I h => ?_⟩
  have hfree : ∀ y ∈ scope.names, y.2 = .free → ∃ c, X.env.cells.lookup y.1 = some c := fun y hy e => by
    rcases ok.free y hy e with k | k
    · exact I.ok.has _ (.inl k)
    · exact I.ok.has _ (.inr k)
  refine wpAny_Call_Name_kw (ld_blt I hgl hm PyProof.Rows.boot_any ?_)
  refine PyProof.Rows.callWith_builtin1 ?_ he (by rfl)
  rw [he]
  show wpAny _ _ (spliced ((false, eval (.GeneratorExp elt [⟨tg, iter, ifs, 0⟩] scope gpos) X.env) :: backTo pos (starEach [] X.env))) _ _ s
  refine Calls.spliced_cons ?_
  refine wpAny_GeneratorExp_make hco (closure_ok hfree) hcell hdot ok.kind (by have := hr.dp; omega) (thn (hi.run pins s σ H _ I h) fun xv s1 hx => thn hx fun itv s2 h2 => ?_) hs
  obtain ⟨it, fp, tn, J, H2, rfl, I2, T, st2, f2, ⟨ps, hP, htr⟩, q⟩ := h2
  refine ⟨I2.nolimit, ?_⟩
  have hPs : s2.heap.get? P = some { cls := .none, data := .fields ps } := I2.hok P _ hP
  have cd : PySem.W.CodeHd s2.heap c P := TB.code.keeps fun b u e => I2.bk b u e
  have cont : ∀ (code : Value) (h3 : Heap) (tk : Nat) (ps' : Array Value), Heap.ExtBut P s2.heap h3 → s2.heap.objs.size ≤ h3.objs.size → h3.get? P = some { cls := .none, data := .fields ps' } → (∃ more, ps' = ps ++ more) → TriplesOk ps'.toList →
      wpAny (model X.prog X.w) X.A (builtinsFor X.env.globals X.env.builtins) (fun bi s₄ => ∀ h', h'.Ns s₄.heap.objs.size (fun y => if y = ".0" then some (.ref it) else none) → Heap.SameBut s₄.heap.objs.size (s₄.heap.push { cls := .type "frame", data := .dict #[] }) h' →
          wpAny (model X.prog X.w) X.A (spliced (backTo pos (starEach [] X.env))) (fun vs s' => wpAny (model X.prog X.w) X.A (call (.builtin "any") (.ref h'.objs.size :: vs)) (EP X pins σ Q) X.xe s') X.xe { s₄ with
            gens := s₄.gens.push (.fresh (.compStart (.GeneratorExp elt [⟨tg, iter, ifs, 0⟩] scope gpos) 0 (.ref it) .none (genEnv scope (cloFrom X.env.cells scope.names []) s₄.heap.objs.size code bi X.env))),
            toks := s₄.toks + 1 + 1 + 1,
            heap := h'.push { cls := .type "generator", data := .fields #[.int s₄.gens.size 0, .str "<genexpr>" (s₄.toks + 1), .str (X.env.qual ++ "<genexpr>") (s₄.toks + 1 + 1)] } }) X.xe { s2 with heap := h3, toks := tk } := by
    intro code h3 tk ps' hx hsz hP3 hmore ht3
    obtain ⟨bm, ob, e1, e2, e3, e4, e5, e6, e7, e8⟩ := TB.bm
    obtain ⟨more, rfl⟩ := hmore
    have keep3 : ∀ b u, b ≠ P → s2.heap.get? b = some u → h3.get? b = some u := fun b u hb e => hx b u hb e
    refine wpAny_builtinsFor (m := X.mg) (by rw [I2.ok.glob]; exact (I2.mod.glob.keeps I2.bk).extBut hx TB.gP) e1 e2 (keep3 _ _ e4 (I2.bk _ _ e5)) e6 e7 e8 ?_
    intro h' hn' hs'
    -- the state at the frame's making
    generalize hs4 : ({ s2 with heap := h3, toks := tk } : Shared) = s4 at hn' hs' ⊢
    generalize hH4 : upd H2 P (.tbl (ps ++ more)) = H4
    have I4 : Inv X pins σ H4 s4 := by
      rw [← hs4, ← hH4]
      exact GxR.inv_tab (g' := s2.gens) (d' := s2.drawn) I2 hP keep3 hP3 I2.bare
    have h4 : s4.heap = h3 := by rw [← hs4]
    have g4 : s4.gens = s2.gens := by rw [← hs4]
    obtain ⟨W, ⟨m0, w0⟩, turn⟩ := q H4 ⟨⟨ps ++ more, by rw [← hH4, upd_same], ht3⟩, fun b hb => by rw [← hH4, upd_ne hb]⟩
    have fpP : ∀ b ∈ fp, b ≠ P := fun b hb z => by
      have := (f2 b hb).1
      rw [z, hP] at this; cases this
    have fp2 : ∀ b ∈ fp, b < s2.heap.objs.size := fun b hb => by
      obtain ⟨o, e, _⟩ := T.obj _ _ st2 b hb
      exact Heap.lt_size e
    have f4 : ∀ b ∈ fp, FpOk X pins H4 b ∧ b < s4.heap.objs.size := fun b hb => by
      refine ⟨⟨?_, (f2 b hb).2⟩, ?_⟩
      · rw [← hH4, upd_ne (fpP b hb)]; exact (f2 b hb).1
      · rw [h4]; exact Nat.lt_of_lt_of_le (fp2 b hb) hsz
    have st4 : tn 0 s4.heap := T.keep _ _ _ st2 fun b hb o e => by rw [h4]; exact keep3 b o (fpP b hb) e
    -- the frame, the generator, the sum's list
    have hsz' : h'.objs.size = s4.heap.objs.size + 1 := by rw [hs'.1, Heap.size_push]
    have keep' : ∀ b o, s4.heap.get? b = some o → h'.get? b = some o := fun b o e => hs'.extBut b o (Nat.ne_of_lt (Heap.lt_size e)) (Heap.get?_push_of_some _ e)
    generalize hgo : ({ cls := .type "generator", data := .fields #[.int s4.gens.size 0, .str "<genexpr>" (s4.toks + 1), .str (X.env.qual ++ "<genexpr>") (s4.toks + 1 + 1)] } : Obj) = go
    have hgen : ∀ h : Heap, h.get? h'.objs.size = some go → h.IsGen h'.objs.size s4.gens.size := fun h e => by
      subst hgo
      exact ⟨_, _, _, e, rfl, rfl, rfl⟩
    have hgof : ∀ v, go.data ≠ .cell v := fun v z => by subst hgo; cases z
    have ga5 : (h'.push go).get? h'.objs.size = some go := Heap.get?_push_size _ (by subst hgo; rfl)
    generalize hcenv : genEnv scope (cloFrom X.env.cells scope.names []) s4.heap.objs.size code builtinsNs X.env = cenv
    have cL : cenv.locals = s4.heap.objs.size := by subst hcenv; rfl
    have cS : cenv.scope = scope := by subst hcenv; rfl
    generalize hcd : Code.compStart (.GeneratorExp elt [⟨tg, iter, ifs, 0⟩] scope gpos) 0 (.ref it) .none cenv = cd0
    have hA' : (X.A.in1.in1.over (.compLoop (.GeneratorExp elt [⟨tg, iter, ifs, 0⟩] scope gpos) 0 (.ref it) .none cenv) []).frames = some (cenv :: X.stack) := gen_frames (show X.A.in1.in1.frames = some X.stack from I4.ok.frames)
    have rA' := gen_room (e := elt) (es := [⟨tg, iter, ifs, 0⟩]) (scope := scope) (pos := gpos) (it := .ref it) (acc := .none) (env := cenv) hr
    generalize hAA : X.A.in1.in1.over (.compLoop (.GeneratorExp elt [⟨tg, iter, ifs, 0⟩] scope gpos) 0 (.ref it) .none cenv) [] = AA at hA' rA'
    refine Calls.spliced_nil ?_
    refine call_function_tree F.kind_any F.plain_any F.entry_any (F.args_any1 _) ?_
    unfold Builtin.«any»
    refine wpAny_bind (m := oneArg "any" _) (wpAny_pure ?_)
    refine wpAny_bind (wpAny_pyIter_gen (s := { s4 with heap := h'.push go, gens := s4.gens.push (.fresh cd0), toks := s4.toks + 1 + 1 + 1 }) (hgen _ ga5) ?_)
    refine wpAny_pure ⟨plainId_quiet F.plain_any_loop _, ?_⟩
    show codeAny (model X.prog X.w) X.A (.builtin (anyId true) ⟨[.ref h'.objs.size], []⟩) _ ({ s4 with heap := h'.push go, gens := s4.gens.push (.fresh cd0), toks := s4.toks + 1 + 1 + 1 } : Shared)
    generalize hs6 : ({ s4 with heap := h'.push go, gens := s4.gens.push (.fresh cd0), toks := s4.toks + 1 + 1 + 1 } : Shared) = s6
    have h6 : s6.heap = h'.push go := by rw [← hs6]
    have g6 : s6.gens = s4.gens.push (.fresh cd0) := by rw [← hs6]
    have kp : ∀ b o, s4.heap.get? b = some o → s6.heap.get? b = some o := fun b o e => by rw [h6]; exact Heap.get?_push_of_some _ (keep' b o e)
    have ea : s6.heap.get? h'.objs.size = some go := by rw [h6]; exact ga5
    have bare6 : AllBare s6.gens := by rw [g6]; exact I4.bare.push rfl
    have I6 := gen_start (code := code) (A' := AA) (s5 := s6) (fp := fp) I4 ok hcell hN f4 (by rw [← hAA]; exact hr.hd) (by rw [hcenv]; exact hA') (by rw [← hs6]) bare6 kp (by rw [h6]; exact hn'.push _)
    rw [hcenv] at I6
    have lt4 : s4.heap.objs.size < h'.objs.size := by omega
    have nH : ∀ b, s4.heap.objs.size ≤ b → H4 b = none := fun b hb => I4.hok.fresh hb
    have nL : ∀ b, s4.heap.objs.size < b → b ≠ cenv.locals := fun b hb => by rw [cL]; exact Nat.ne_of_gt hb
    have nF : ∀ b, s4.heap.objs.size ≤ b → b ∉ frs X.stack := fun b hb z => by
      rcases List.mem_cons.mp (I4.stkSub b z) with z | z
      · have := I4.lt
        rw [← z] at this
        exact absurd (Nat.lt_of_lt_of_le this hb) (Nat.lt_irrefl _)
      · exact I4.nofs hb z
    have gs6 : GSp (gblk X s4 H4 scope cenv fp AA) (wipe σ (own.map (·.2))) tn fp [(h'.objs.size, go)] 0 H4 s6 := by
      refine ⟨I6.pins_of fun p hp => ?_, T.keep _ _ _ st4 fun b _ o e => kp b o e, fun b hb => (f4 b hb).1.1⟩
      obtain rfl : p = (h'.objs.size, go) := by simpa using hp
      exact ⟨ea, nH _ (by show _ ≤ h'.objs.size; omega), nL _ (by show _ < h'.objs.size; omega), nF _ (by show _ ≤ h'.objs.size; omega), hgof⟩
    have hcl : cenv.cells = cloFrom X.env.cells scope.names [] := by subst hcenv; rfl
    have clt : ∀ x c, cenv.cells.lookup x = some c → c < s4.heap.objs.size := fun x c e => by
      rw [hcl] at e
      rcases cloFrom_mem (PySem.mem_of_lookup e) with hm | ⟨h1, rfl⟩
      · cases hm
      · obtain ⟨c, hc⟩ := hfree _ h1 rfl
        rw [hc]
        obtain ⟨w, z⟩ := I4.cell _ _ hc
        exact z.lt
    have told : ∀ (b : Bool) s' ps' H', PnA h'.objs.size go () ps' → Inv (gblk X s4 H4 scope cenv fp AA) ps' (wipe σ (own.map (·.2))) H' s' → Q (.bl b) H' → EP X pins σ Q (.bool b) s' := by
      rintro b s' ps' H' - I' hq
      exact ⟨.bl b, H', I4.call' (ch := fp) (by rw [I'.os]) I'.base I'.hok I'.bare fun b hb => ⟨(f4 b hb).1.2.2.2.1, (f4 b hb).1.2.1, (f4 b hb).1.2.2.2.2.1, (f4 b hb).1.2.2.2.2.2⟩, rfl, hq⟩
    refine any_loop (Y := gblk X s4 H4 scope cenv fp AA) (σ1 := wipe σ (own.map (·.2))) (tn := tn) (fp := fp) (Fin := fun H => Q (.bl (!true)) H) (Stop := fun H => Q (.bl true) H) (a := h'.objs.size) (go := go) (g := s4.gens.size) true hr.hd (by have := hr.dp; show X.A.depth < _; omega) hgen
      (told true) (told (!true)) m0 0 _ s6 H4 (.fresh cd0) rfl gs6 (by rw [g6]; exact Array.getElem?_push_size ..) ?_
    · intro s'' hs''
      rw [← hcd]
      have e1 := hg s4 H4 (cloFrom X.env.cells scope.names []) s4.heap.objs.size code builtinsNs fp AA rA'
      have e2 := ht s4 H4 (cloFrom X.env.cells scope.names []) s4.heap.objs.size code builtinsNs fp AA rA'
      have e3 := hel s4 H4 (cloFrom X.env.cells scope.names []) s4.heap.objs.size code builtinsNs fp AA rA'
      rw [hcenv] at e1 e2 e3
      refine ⟨rfl, gen_begin (Y := gblk X s4 H4 scope cenv fp AA) (A1 := X.A.in1.in1) (J := J) (W := W) hAA.symm hc (by show cenv.scope.isCoroutine = false; rw [cS]; exact hco) rfl rfl rfl T e1 e2 e3 (fun acc ps' hp p hq b hb => ?_) turn m0 m0 () _ s'' s'' H4 (Nat.le_refl _) w0 rfl (fun p hq => (hs''.inv.pin p (List.mem_append_right _ hq)).1) hs''⟩
      obtain rfl : ps' = [(h'.objs.size, go)] := hp
      have hb4 := (f4 b hb).2
      obtain rfl : p = (h'.objs.size, go) := by simpa using hq
      exact Nat.ne_of_gt (Nat.lt_trans hb4 lt4)
  cases hf : codeAmong gpos ps.toList with
  | none =>
    refine wpAny_genexprCodeX hcode (cd.code hPs htr) (cd.tab hPs) hf fun c' h3 tk hx hge hlt hco' _ htab' _ => ?_
    obtain ⟨o1, vs, f1, tf, fl, tg, inF, tx, tt, op, _, _, _, _, _, _, _, _, _, htr', _⟩ := hco'
    exact cont _ h3 tk _ hx (Nat.le_trans hge (Nat.le_of_lt hlt)) htab'.2 ⟨_, rfl⟩ htr'
  | some cv =>
    refine wpAny_genexprCode_hit hcode (cd.code hPs htr) hf ?_
    exact cont cv s2.heap s2.toks ps (Heap.ExtBut.refl _ _) (Nat.le_refl _) hPs ⟨#[], by simp⟩ htr
theorem pe_allG (hr : Room (k + 1) X.A) (hc : X.calm = true) (hN : X.N.Nodup) (hgl : Gl X "all") (hm : X.mg "all" = none) (TB : GxR.TabB X.base X.mg c P) (hcode : X.env.code = .ref c) (hco : scope.isCoroutine = false) (hcell : ∀ y ∈ scope.names, y.2 ≠ .cell)
    (hdot : scope.names.lookup (".0" : Str) = some NameKind.local) (ok : BlkOk X.N X.env.scope scope own) (hi : PI X tg iter wi)
    (hg : ∀ (s : Shared) (H : Hp) (cl : List (Str × Addr)) (C : Addr) (code : Value) (bi : Addr) (fp : List Addr) (A' : Around), Room k A' → PG (gblk X s H scope (genEnv scope cl C code bi X.env) fp A') tg g)
    (ht : ∀ (s : Shared) (H : Hp) (cl : List (Str × Addr)) (C : Addr) (code : Value) (bi : Addr) (fp : List Addr) (A' : Around), Room k A' → PTs (gblk X s H scope (genEnv scope cl C code bi X.env) fp A') ifs tt)
    (hel : ∀ (s : Shared) (H : Hp) (cl : List (Str × Addr)) (C : Addr) (code : Value) (bi : Addr) (fp : List Addr) (A' : Around), Room k A' → PE (gblk X s H scope (genEnv scope cl C code bi X.env) fp A') elt te)
    (hs : ∀ v, genFold iter X.env v = pure v)
    (he : starEach [.GeneratorExp elt [⟨tg, iter, ifs, 0⟩] scope gpos] X.env = (false, eval (.GeneratorExp elt [⟨tg, iter, ifs, 0⟩] scope gpos) X.env) :: starEach [] X.env := by rfl) :
    PE X (.Call (.Name "all" p) [.GeneratorExp elt [⟨tg, iter, ifs, 0⟩] scope gpos] [] pos) (tAnyG false P wi g tt te (own.map (·.2))) := by
  refine ⟨fun pins s σ H Q I h => ?_⟩
  have hfree : ∀ y ∈ scope.names, y.2 = .free → ∃ c, X.env.cells.lookup y.1 = some c := fun y hy e => by
    rcases ok.free y hy e with k | k
    · exact I.ok.has _ (.inl k)
    · exact I.ok.has _ (.inr k)
  refine wpAny_Call_Name_kw (ld_blt I hgl hm PyProof.Rows.boot_all ?_)
  refine PyProof.Rows.callWith_builtin1 ?_ he (by rfl)
  rw [he]
  show wpAny _ _ (spliced ((false, eval (.GeneratorExp elt [⟨tg, iter, ifs, 0⟩] scope gpos) X.env) :: backTo pos (starEach [] X.env))) _ _ s
  refine Calls.spliced_cons ?_
  refine wpAny_GeneratorExp_make hco (closure_ok hfree) hcell hdot ok.kind (by have := hr.dp; omega) (thn (hi.run pins s σ H _ I h) fun xv s1 hx => thn hx fun itv s2 h2 => ?_) hs
  obtain ⟨it, fp, tn, J, H2, rfl, I2, T, st2, f2, ⟨ps, hP, htr⟩, q⟩ := h2
  refine ⟨I2.nolimit, ?_⟩
  have hPs : s2.heap.get? P = some { cls := .none, data := .fields ps } := I2.hok P _ hP
  have cd : PySem.W.CodeHd s2.heap c P := TB.code.keeps fun b u e => I2.bk b u e
  have cont : ∀ (code : Value) (h3 : Heap) (tk : Nat) (ps' : Array Value), Heap.ExtBut P s2.heap h3 → s2.heap.objs.size ≤ h3.objs.size → h3.get? P = some { cls := .none, data := .fields ps' } → (∃ more, ps' = ps ++ more) → TriplesOk ps'.toList →
      wpAny (model X.prog X.w) X.A (builtinsFor X.env.globals X.env.builtins) (fun bi s₄ => ∀ h', h'.Ns s₄.heap.objs.size (fun y => if y = ".0" then some (.ref it) else none) → Heap.SameBut s₄.heap.objs.size (s₄.heap.push { cls := .type "frame", data := .dict #[] }) h' →
          wpAny (model X.prog X.w) X.A (spliced (backTo pos (starEach [] X.env))) (fun vs s' => wpAny (model X.prog X.w) X.A (call (.builtin "all") (.ref h'.objs.size :: vs)) (EP X pins σ Q) X.xe s') X.xe { s₄ with
            gens := s₄.gens.push (.fresh (.compStart (.GeneratorExp elt [⟨tg, iter, ifs, 0⟩] scope gpos) 0 (.ref it) .none (genEnv scope (cloFrom X.env.cells scope.names []) s₄.heap.objs.size code bi X.env))),
            toks := s₄.toks + 1 + 1 + 1,
            heap := h'.push { cls := .type "generator", data := .fields #[.int s₄.gens.size 0, .str "<genexpr>" (s₄.toks + 1), .str (X.env.qual ++ "<genexpr>") (s₄.toks + 1 + 1)] } }) X.xe { s2 with heap := h3, toks := tk } := by
    intro code h3 tk ps' hx hsz hP3 hmore ht3
    obtain ⟨bm, ob, e1, e2, e3, e4, e5, e6, e7, e8⟩ := TB.bm
    obtain ⟨more, rfl⟩ := hmore
    have keep3 : ∀ b u, b ≠ P → s2.heap.get? b = some u → h3.get? b = some u := fun b u hb e => hx b u hb e
    refine wpAny_builtinsFor (m := X.mg) (by rw [I2.ok.glob]; exact (I2.mod.glob.keeps I2.bk).extBut hx TB.gP) e1 e2 (keep3 _ _ e4 (I2.bk _ _ e5)) e6 e7 e8 ?_
    intro h' hn' hs'
    -- the state at the frame's making
    generalize hs4 : ({ s2 with heap := h3, toks := tk } : Shared) = s4 at hn' hs' ⊢
    generalize hH4 : upd H2 P (.tbl (ps ++ more)) = H4
    have I4 : Inv X pins σ H4 s4 := by
      rw [← hs4, ← hH4]
      exact GxR.inv_tab (g' := s2.gens) (d' := s2.drawn) I2 hP keep3 hP3 I2.bare
    have h4 : s4.heap = h3 := by rw [← hs4]
    have g4 : s4.gens = s2.gens := by rw [← hs4]
    obtain ⟨W, ⟨m0, w0⟩, turn⟩ := q H4 ⟨⟨ps ++ more, by rw [← hH4, upd_same], ht3⟩, fun b hb => by rw [← hH4, upd_ne hb]⟩
    have fpP : ∀ b ∈ fp, b ≠ P := fun b hb z => by
      have := (f2 b hb).1
      rw [z, hP] at this; cases this
    have fp2 : ∀ b ∈ fp, b < s2.heap.objs.size := fun b hb => by
      obtain ⟨o, e, _⟩ := T.obj _ _ st2 b hb
      exact Heap.lt_size e
    have f4 : ∀ b ∈ fp, FpOk X pins H4 b ∧ b < s4.heap.objs.size := fun b hb => by
      refine ⟨⟨?_, (f2 b hb).2⟩, ?_⟩
      · rw [← hH4, upd_ne (fpP b hb)]; exact (f2 b hb).1
      · rw [h4]; exact Nat.lt_of_lt_of_le (fp2 b hb) hsz
    have st4 : tn 0 s4.heap := T.keep _ _ _ st2 fun b hb o e => by rw [h4]; exact keep3 b o (fpP b hb) e
    -- the frame, the generator, the sum's list
    have hsz' : h'.objs.size = s4.heap.objs.size + 1 := by rw [hs'.1, Heap.size_push]
    have keep' : ∀ b o, s4.heap.get? b = some o → h'.get? b = some o := fun b o e => hs'.extBut b o (Nat.ne_of_lt (Heap.lt_size e)) (Heap.get?_push_of_some _ e)
    generalize hgo : ({ cls := .type "generator", data := .fields #[.int s4.gens.size 0, .str "<genexpr>" (s4.toks + 1), .str (X.env.qual ++ "<genexpr>") (s4.toks + 1 + 1)] } : Obj) = go
    have hgen : ∀ h : Heap, h.get? h'.objs.size = some go → h.IsGen h'.objs.size s4.gens.size := fun h e => by
      subst hgo
      exact ⟨_, _, _, e, rfl, rfl, rfl⟩
    have hgof : ∀ v, go.data ≠ .cell v := fun v z => by subst hgo; cases z
    have ga5 : (h'.push go).get? h'.objs.size = some go := Heap.get?_push_size _ (by subst hgo; rfl)
    generalize hcenv : genEnv scope (cloFrom X.env.cells scope.names []) s4.heap.objs.size code builtinsNs X.env = cenv
    have cL : cenv.locals = s4.heap.objs.size := by subst hcenv; rfl
    have cS : cenv.scope = scope := by subst hcenv; rfl
    generalize hcd : Code.compStart (.GeneratorExp elt [⟨tg, iter, ifs, 0⟩] scope gpos) 0 (.ref it) .none cenv = cd0
    have hA' : (X.A.in1.in1.over (.compLoop (.GeneratorExp elt [⟨tg, iter, ifs, 0⟩] scope gpos) 0 (.ref it) .none cenv) []).frames = some (cenv :: X.stack) := gen_frames (show X.A.in1.in1.frames = some X.stack from I4.ok.frames)
    have rA' := gen_room (e := elt) (es := [⟨tg, iter, ifs, 0⟩]) (scope := scope) (pos := gpos) (it := .ref it) (acc := .none) (env := cenv) hr
    generalize hAA : X.A.in1.in1.over (.compLoop (.GeneratorExp elt [⟨tg, iter, ifs, 0⟩] scope gpos) 0 (.ref it) .none cenv) [] = AA at hA' rA'
    refine Calls.spliced_nil ?_
    refine call_function_tree F.kind_all F.plain_all F.entry_all (F.args_all1 _) ?_
    unfold Builtin.«all»
    refine wpAny_bind (m := oneArg "all" _) (wpAny_pure ?_)
    refine wpAny_bind (wpAny_pyIter_gen (s := { s4 with heap := h'.push go, gens := s4.gens.push (.fresh cd0), toks := s4.toks + 1 + 1 + 1 }) (hgen _ ga5) ?_)
    refine wpAny_pure ⟨plainId_quiet F.plain_all_loop _, ?_⟩
    show codeAny (model X.prog X.w) X.A (.builtin (anyId false) ⟨[.ref h'.objs.size], []⟩) _ ({ s4 with heap := h'.push go, gens := s4.gens.push (.fresh cd0), toks := s4.toks + 1 + 1 + 1 } : Shared)
    generalize hs6 : ({ s4 with heap := h'.push go, gens := s4.gens.push (.fresh cd0), toks := s4.toks + 1 + 1 + 1 } : Shared) = s6
    have h6 : s6.heap = h'.push go := by rw [← hs6]
    have g6 : s6.gens = s4.gens.push (.fresh cd0) := by rw [← hs6]
    have kp : ∀ b o, s4.heap.get? b = some o → s6.heap.get? b = some o := fun b o e => by rw [h6]; exact Heap.get?_push_of_some _ (keep' b o e)
    have ea : s6.heap.get? h'.objs.size = some go := by rw [h6]; exact ga5
    have bare6 : AllBare s6.gens := by rw [g6]; exact I4.bare.push rfl
    have I6 := gen_start (code := code) (A' := AA) (s5 := s6) (fp := fp) I4 ok hcell hN f4 (by rw [← hAA]; exact hr.hd) (by rw [hcenv]; exact hA') (by rw [← hs6]) bare6 kp (by rw [h6]; exact hn'.push _)
    rw [hcenv] at I6
    have lt4 : s4.heap.objs.size < h'.objs.size := by omega
    have nH : ∀ b, s4.heap.objs.size ≤ b → H4 b = none := fun b hb => I4.hok.fresh hb
    have nL : ∀ b, s4.heap.objs.size < b → b ≠ cenv.locals := fun b hb => by rw [cL]; exact Nat.ne_of_gt hb
    have nF : ∀ b, s4.heap.objs.size ≤ b → b ∉ frs X.stack := fun b hb z => by
      rcases List.mem_cons.mp (I4.stkSub b z) with z | z
      · have := I4.lt
        rw [← z] at this
        exact absurd (Nat.lt_of_lt_of_le this hb) (Nat.lt_irrefl _)
      · exact I4.nofs hb z
    have gs6 : GSp (gblk X s4 H4 scope cenv fp AA) (wipe σ (own.map (·.2))) tn fp [(h'.objs.size, go)] 0 H4 s6 := by
      refine ⟨I6.pins_of fun p hp => ?_, T.keep _ _ _ st4 fun b _ o e => kp b o e, fun b hb => (f4 b hb).1.1⟩
      obtain rfl : p = (h'.objs.size, go) := by simpa using hp
      exact ⟨ea, nH _ (by show _ ≤ h'.objs.size; omega), nL _ (by show _ < h'.objs.size; omega), nF _ (by show _ ≤ h'.objs.size; omega), hgof⟩
    have hcl : cenv.cells = cloFrom X.env.cells scope.names [] := by subst hcenv; rfl
    have clt : ∀ x c, cenv.cells.lookup x = some c → c < s4.heap.objs.size := fun x c e => by
      rw [hcl] at e
      rcases cloFrom_mem (PySem.mem_of_lookup e) with hm | ⟨h1, rfl⟩
      · cases hm
      · obtain ⟨c, hc⟩ := hfree _ h1 rfl
        rw [hc]
        obtain ⟨w, z⟩ := I4.cell _ _ hc
        exact z.lt
    have told : ∀ (b : Bool) s' ps' H', PnA h'.objs.size go () ps' → Inv (gblk X s4 H4 scope cenv fp AA) ps' (wipe σ (own.map (·.2))) H' s' → Q (.bl b) H' → EP X pins σ Q (.bool b) s' := by
      rintro b s' ps' H' - I' hq
      exact ⟨.bl b, H', I4.call' (ch := fp) (by rw [I'.os]) I'.base I'.hok I'.bare fun b hb => ⟨(f4 b hb).1.2.2.2.1, (f4 b hb).1.2.1, (f4 b hb).1.2.2.2.2.1, (f4 b hb).1.2.2.2.2.2⟩, rfl, hq⟩
    refine any_loop (Y := gblk X s4 H4 scope cenv fp AA) (σ1 := wipe σ (own.map (·.2))) (tn := tn) (fp := fp) (Fin := fun H => Q (.bl (!false)) H) (Stop := fun H => Q (.bl false) H) (a := h'.objs.size) (go := go) (g := s4.gens.size) false hr.hd (by have := hr.dp; show X.A.depth < _; omega) hgen
      (told false) (told (!false)) m0 0 _ s6 H4 (.fresh cd0) rfl gs6 (by rw [g6]; exact Array.getElem?_push_size ..) ?_
    · intro s'' hs''
      rw [← hcd]
      have e1 := hg s4 H4 (cloFrom X.env.cells scope.names []) s4.heap.objs.size code builtinsNs fp AA rA'
      have e2 := ht s4 H4 (cloFrom X.env.cells scope.names []) s4.heap.objs.size code builtinsNs fp AA rA'
      have e3 := hel s4 H4 (cloFrom X.env.cells scope.names []) s4.heap.objs.size code builtinsNs fp AA rA'
      rw [hcenv] at e1 e2 e3
      refine ⟨rfl, gen_begin (Y := gblk X s4 H4 scope cenv fp AA) (A1 := X.A.in1.in1) (J := J) (W := W) hAA.symm hc (by show cenv.scope.isCoroutine = false; rw [cS]; exact hco) rfl rfl rfl T e1 e2 e3 (fun acc ps' hp p hq b hb => ?_) turn m0 m0 () _ s'' s'' H4 (Nat.le_refl _) w0 rfl (fun p hq => (hs''.inv.pin p (List.mem_append_right _ hq)).1) hs''⟩
      obtain rfl : ps' = [(h'.objs.size, go)] := hp
      have hb4 := (f4 b hb).2
      obtain rfl : p = (h'.objs.size, go) := by simpa using hq
      exact Nat.ne_of_gt (Nat.lt_trans hb4 lt4)
  cases hf : codeAmong gpos ps.toList with
  | none =>
    refine wpAny_genexprCodeX hcode (cd.code hPs htr) (cd.tab hPs) hf fun c' h3 tk hx hge hlt hco' _ htab' _ => ?_
    obtain ⟨o1, vs, f1, tf, fl, tg, inF, tx, tt, op, _, _, _, _, _, _, _, _, _, htr', _⟩ := hco'
    exact cont _ h3 tk _ hx (Nat.le_trans hge (Nat.le_of_lt hlt)) htab'.2 ⟨_, rfl⟩ htr'
  | some cv =>
    refine wpAny_genexprCode_hit hcode (cd.code hPs htr) hf ?_
    exact cont cv s2.heap s2.toks ps (Heap.ExtBut.refl _ _) (Nat.le_refl _) hPs ⟨#[], by simp⟩ htr
end
def onBl (x : PV) (f : Bool → Prop) : Prop := match x with
  | .bl k => f k
  | _ => False
theorem onBl_ex {x : PV} {f : Bool → Prop} (h : onBl x f) : ∃ k, x = .bl k ∧ f k := by
  cases x <;> first | exact ⟨_, rfl, h⟩ | exact h.elim
theorem onBl_mo {x : PV} {f g : Bool → Prop} (h : ∀ k, f k → g k) (q : onBl x f) : onBl x g := by
  cases x <;> first | exact h _ q | exact q.elim
def pAnyL (stop : Bool) (chk : Store → Prop) (g : PTG) (tt : PTT) (te : PTE) (E : XW) (ρ0 : PEnv) (Q : PQ) : List PV → Store → Prop
  | [], S => chk S ∧ Q (.bl (!stop)) S
  | x :: xs, S => chk S ∧ g E x ρ0 S fun ρ1 S1 => tt E ρ1 S1 fun b S2 => Br b (te E ρ1 S2 fun y S3 => onBl y fun k => Br (k == stop) (Q (.bl stop) S3) (pAnyL stop chk g tt te E ρ0 Q xs S3)) (pAnyL stop chk g tt te E ρ0 Q xs S2)
def pAny (stop : Bool) (i : PTI) (g : PTG) (tt : PTT) (te : PTE) (ws : List Nat) : PTE := fun E ρ S Q => i E ρ S fun it S1 => pAnyL stop it.chk g tt te E (wipeP ρ ws) Q it.items S1
theorem Br_mo {b : Bool} {P Q P' Q' : Prop} (h : P → P') (h' : Q → Q') (q : Br b P Q) : Br b P' Q' := by
  cases b
  · exact h' q
  · exact h q
theorem pAnyL_mo {stop : Bool} {chk : Store → Prop} {g : PTG} {tt : PTT} {te : PTE} [MoG g] [MoT tt] [MoE te] {E : XW} {ρ0 : PEnv} {Q Q' : PQ} (h : ∀ x S, Q x S → Q' x S) : ∀ {xs : List PV} {S : Store}, pAnyL stop chk g tt te E ρ0 Q xs S → pAnyL stop chk g tt te E ρ0 Q' xs S
  | [], S, q => ⟨q.1, h _ _ q.2⟩
  | x :: xs, S, q => by
    unfold pAnyL at q ⊢
    refine ⟨q.1, MoG.mo (g := g) (fun _ _ q => MoT.mo (f := tt) (fun b _ q => ?_) q) q.2⟩
    cases b with
    | false => exact pAnyL_mo h q
    | true => exact MoE.mo (f := te) (fun _ _ q => onBl_mo (fun _ q => Br_mo (h _ _) (pAnyL_mo h) q) q) q
instance {stop : Bool} {i : PTI} {g : PTG} {tt : PTT} {te : PTE} {ws : List Nat} [MoI i] [MoG g] [MoT tt] [MoE te] : MoE (pAny stop i g tt te ws) := ⟨fun h q => MoI.mo (f := i) (fun _ _ q => pAnyL_mo h q) q⟩
section
variable {bk : BagKind} {X : Cx}
theorem any_sound (stop : Bool) {wi : TI} {g : TG} {tt : TT} {te : TE} {ws : List Nat} {i : PTI} {pg : PTG} {pt : PTT} {pe : PTE} {P : Addr} (hP : P ∈ bk.tabs)
    (hi : ∀ (E : XW) M ρ S σ H R R', Rel X.K bk M ρ S σ H → i E ρ S R → (∀ M' S' H' it J, Step M H M' H' → Sto X.K bk M' S' H' → ItOk bk X.K it J M' H' → R it S' → R' J H') → wi σ H R')
    (hg : ∀ (E : XW) M ρ S σ0 H x v (Q : PEnv → Store → Prop) (Q' : St → Hp → Prop), Rel X.K bk M ρ S (wipe σ0 ws) H → Rp X.K bk.root M H x v → pg E x ρ S Q →
      (∀ M' ρ' S' σ' H', wipe σ' ws = wipe σ0 ws → Step M H M' H' → Rel X.K bk M' ρ' S' σ' H' → Q ρ' S' → Q' σ' H') → g v (wipe σ0 ws) H Q')
    (ht : ∀ (E : XW) M ρ S σ H Q Q', Rel X.K bk M ρ S σ H → pt E ρ S Q → PostT bk X.K M H Q Q' → tt σ H Q')
    (he : ∀ (E : XW) M ρ S σ H Q Q', Rel X.K bk M ρ S σ H → pe E ρ S Q → Post bk X.K M H Q Q' → te σ H Q')
    (E : XW) (M : Am) (ρ : PEnv) (S : Store) (σ : St) (H : Hp) (Q : PQ) (Q' : VK) (R : Rel X.K bk M ρ S σ H) (q : pAny stop i pg pt pe ws E ρ S Q) (p : Post bk X.K M H Q Q') : tAnyG stop P wi g tt te ws σ H Q' := by
  refine hi E M ρ S σ H _ _ R q fun M1 S1 H1 it J t1 s1 ok q1 => ⟨s1.tabs P hP, fun H2 tb => ?_⟩
  obtain ⟨t2, s2⟩ := s1.tabbed (s1.tabs P hP) tb
  refine ⟨fun k _ j H3 => j = it.items.length - k ∧ k ≤ it.items.length ∧ ∃ M2 S2, Step M1 H2 M2 H3 ∧ Sto X.K bk M2 S2 H3 ∧ pAnyL stop it.chk pg pt pe E (wipeP ρ ws) Q (it.items.drop k) S2,
    ⟨_, rfl, Nat.zero_le _, _, _, .refl _ _, s2, q1⟩, ?_⟩
  rintro k acc j H3 ⟨rfl, hk, M2, S2, t3, s3, q2⟩
  have t13 := t1.trans (t2.trans t3)
  by_cases hlt : k < it.items.length
  · rw [List.drop_eq_getElem_cons hlt] at q2
    unfold pAnyL at q2
    obtain ⟨hck, q2⟩ := q2
    obtain ⟨hgo, hy⟩ := (ok M2 S2 H3 k (t2.trans t3) s3 hck).1 it.items[k] (by simp [hlt])
    refine .inr ⟨hgo, by omega, fun _ H' => ∃ M3 S3, Step M1 H2 M3 H' ∧ Sto X.K bk M3 S3 H' ∧ pAnyL stop it.chk pg pt pe E (wipeP ρ ws) Q (it.items.drop (k + 1)) S3, fun acc' H' z => ⟨_, by omega, rfl, hlt, z⟩, fun v H4 y => ?_⟩
    obtain ⟨t4, s4, r4⟩ := hy v H4 y
    refine hg E M2 _ S2 σ H4 _ v _ _ ((R.step (t13.trans t4) s4).wipe ws) r4 q2 fun M5 ρ5 S5 σ5 H5 hw t5 R5 q5 => ⟨hw, ?_⟩
    refine ht E M5 ρ5 S5 σ5 H5 _ _ R5 q5 fun M6 S6 H6 b t6 s6 q6 => ?_
    have t36 := t3.trans (t4.trans (t5.trans t6))
    cases b with
    | false =>
      rw [if_neg Bool.false_ne_true]
      exact ⟨M6, S6, t36, s6, q6⟩
    | true =>
      rw [if_pos rfl]
      refine he E M6 ρ5 S6 σ5 H6 _ _ (R5.step t6 s6) q6 fun M7 S7 H7 y7 v7 t7 s7 r7 q7 => ?_
      obtain ⟨kk, rfl, q7⟩ := onBl_ex q7
      obtain rfl := rp_bl r7
      refine ⟨kk, rfl, fun e => ?_, fun e => ?_⟩
      · subst e
        have q8 := (show Br (kk == kk) _ _ from q7)
        rw [show (kk == kk) = true by cases kk <;> rfl] at q8
        exact p M7 S7 H7 _ _ (t1.trans (t2.trans (t36.trans t7))) s7 (by rw [Rp]) q8
      · subst e
        have q8 := (show Br ((!stop) == stop) _ _ from q7)
        rw [show ((!stop) == stop) = false by cases stop <;> rfl] at q8
        exact ⟨M7, S7, t36.trans t7, s7, q8⟩
  · have e : k = it.items.length := by omega
    subst e
    rw [List.drop_length] at q2
    obtain ⟨hck, q2⟩ := q2
    exact .inl ⟨(ok M2 S2 H3 _ (t2.trans t3) s3 hck).2 (by simp), p M2 S2 H3 _ _ t13 s3 (by rw [Rp]) q2⟩
theorem q_anyG {c P : Addr} {k : Nat} {elt tg iter : Expr} {ifs : List Expr} {scope : Scope} {own : List (Str × Nat)} {p pos gpos : Pos} {i : PTI} {pg : PTG} {pt : PTT} {pe : PTE} {ws : List Nat} (hr : Room (k + 1) X.A) (hc : X.calm = true) (hN : X.N.Nodup) (hgl : Gl X "any") (hm : X.mg "any" = none)
    (TB : GxR.TabB X.base X.mg c P) (hcode : X.env.code = .ref c) (hP : P ∈ bk.tabs) (sc : GScp X.N X.env.scope scope own) (hws : own.map (·.2) = ws) (hi : QI bk X tg iter i)
    (hg : ∀ (s : Shared) (H : Hp) (cl : List (Str × Addr)) (C : Addr) (code : Value) (bi : Addr) (fp : List Addr) (A' : Around), Room k A' → QGw bk (gblk X s H scope (genEnv scope cl C code bi X.env) fp A') tg pg ws)
    (ht : ∀ (s : Shared) (H : Hp) (cl : List (Str × Addr)) (C : Addr) (code : Value) (bi : Addr) (fp : List Addr) (A' : Around), Room k A' → QTs bk (gblk X s H scope (genEnv scope cl C code bi X.env) fp A') ifs pt)
    (he : ∀ (s : Shared) (H : Hp) (cl : List (Str × Addr)) (C : Addr) (code : Value) (bi : Addr) (fp : List Addr) (A' : Around), Room k A' → QE bk (gblk X s H scope (genEnv scope cl C code bi X.env) fp A') elt pe)
    (hs : ∀ v, genFold iter X.env v = pure v := by intro _; rfl)
    (hst : starEach [.GeneratorExp elt [⟨tg, iter, ifs, 0⟩] scope gpos] X.env = (false, eval (.GeneratorExp elt [⟨tg, iter, ifs, 0⟩] scope gpos) X.env) :: starEach [] X.env := by rfl) :
    QE bk X (.Call (.Name "any" p) [.GeneratorExp elt [⟨tg, iter, ifs, 0⟩] scope gpos] [] pos) (pAny true i pg pt pe ws) := by
  obtain ⟨ti, pi, wi⟩ := hi.ex
  subst hws
  refine ⟨_, pe_anyG (g := tGw bk X.K (own.map (·.2)) pg) (tt := tT bk X.K pt) (te := tE bk X.K pe) hr hc hN hgl hm TB hcode sc.co sc.cell sc.dot sc.ok pi (fun s H cl C code bi fp A' r => (hg s H cl C code bi fp A' r).canon) (fun s H cl C code bi fp A' r => (ht s H cl C code bi fp A' r).canon) (fun s H cl C code bi fp A' r => (he s H cl C code bi fp A' r).canon) hs hst, fun E M ρ S σ H Q Q' R q p => ?_⟩
  exact any_sound true hP wi (fun E M ρ S σ0 H x v Q Q' R r q k => ⟨E, M, ρ, S, σ0, x, Q, rfl, R, r, q, k⟩) (fun E M ρ S σ H Q Q' R q k => ⟨E, M, ρ, S, Q, R, q, k⟩) (fun E M ρ S σ H Q Q' R q k => ⟨E, M, ρ, S, Q, R, q, k⟩) E M ρ S σ H Q Q' R q p
theorem q_allG {c P : Addr} {k : Nat} {elt tg iter : Expr} {ifs : List Expr} {scope : Scope} {own : List (Str × Nat)} {p pos gpos : Pos} {i : PTI} {pg : PTG} {pt : PTT} {pe : PTE} {ws : List Nat} (hr : Room (k + 1) X.A) (hc : X.calm = true) (hN : X.N.Nodup) (hgl : Gl X "all") (hm : X.mg "all" = none)
    (TB : GxR.TabB X.base X.mg c P) (hcode : X.env.code = .ref c) (hP : P ∈ bk.tabs) (sc : GScp X.N X.env.scope scope own) (hws : own.map (·.2) = ws) (hi : QI bk X tg iter i)
    (hg : ∀ (s : Shared) (H : Hp) (cl : List (Str × Addr)) (C : Addr) (code : Value) (bi : Addr) (fp : List Addr) (A' : Around), Room k A' → QGw bk (gblk X s H scope (genEnv scope cl C code bi X.env) fp A') tg pg ws)
    (ht : ∀ (s : Shared) (H : Hp) (cl : List (Str × Addr)) (C : Addr) (code : Value) (bi : Addr) (fp : List Addr) (A' : Around), Room k A' → QTs bk (gblk X s H scope (genEnv scope cl C code bi X.env) fp A') ifs pt)
    (he : ∀ (s : Shared) (H : Hp) (cl : List (Str × Addr)) (C : Addr) (code : Value) (bi : Addr) (fp : List Addr) (A' : Around), Room k A' → QE bk (gblk X s H scope (genEnv scope cl C code bi X.env) fp A') elt pe)
    (hs : ∀ v, genFold iter X.env v = pure v := by intro _; rfl)
    (hst : starEach [.GeneratorExp elt [⟨tg, iter, ifs, 0⟩] scope gpos] X.env = (false, eval (.GeneratorExp elt [⟨tg, iter, ifs, 0⟩] scope gpos) X.env) :: starEach [] X.env := by rfl) :
    QE bk X (.Call (.Name "all" p) [.GeneratorExp elt [⟨tg, iter, ifs, 0⟩] scope gpos] [] pos) (pAny false i pg pt pe ws) := by
  obtain ⟨ti, pi, wi⟩ := hi.ex
  subst hws
  refine ⟨_, pe_allG (g := tGw bk X.K (own.map (·.2)) pg) (tt := tT bk X.K pt) (te := tE bk X.K pe) hr hc hN hgl hm TB hcode sc.co sc.cell sc.dot sc.ok pi (fun s H cl C code bi fp A' r => (hg s H cl C code bi fp A' r).canon) (fun s H cl C code bi fp A' r => (ht s H cl C code bi fp A' r).canon) (fun s H cl C code bi fp A' r => (he s H cl C code bi fp A' r).canon) hs hst, fun E M ρ S σ H Q Q' R q p => ?_⟩
  exact any_sound false hP wi (fun E M ρ S σ0 H x v Q Q' R r q k => ⟨E, M, ρ, S, σ0, x, Q, rfl, R, r, q, k⟩) (fun E M ρ S σ H Q Q' R q k => ⟨E, M, ρ, S, Q, R, q, k⟩) (fun E M ρ S σ H Q Q' R q k => ⟨E, M, ρ, S, Q, R, q, k⟩) E M ρ S σ H Q Q' R q p
end
/-- one turn -/
def anStep (g : PTG) (tt : PTT) (te : PTE) (E : XW) (ρ0 : PEnv) (x : PV) (S : Store) (Qk : Option Bool → Store → Prop) : Prop :=
  g E x ρ0 S fun ρ1 S1 => tt E ρ1 S1 fun b S2 => Br b (te E ρ1 S2 fun y S3 => onBl y fun k => Qk (some k) S3) (Qk none S2)
/-- any of f -/
theorem pAny_map {α : Type} {chk : Store → Prop} {g : PTG} {tt : PTT} {te : PTE} [MoG g] [MoT tt] [MoE te] {E : XW} {ρ0 : PEnv} {Q : PQ} {S : Store} (enc : α → PV) (f : α → Bool) (hc : chk S) : ∀ (xs : List α),
    (∀ x ∈ xs, ∀ Qk, Qk (some (f x)) S → anStep g tt te E ρ0 (enc x) S Qk) → Q (.bl (xs.any f)) S → pAnyL true chk g tt te E ρ0 Q (xs.map enc) S
  | [], _, q => ⟨hc, q⟩
  | x :: xs, h, q => by
    refine ⟨hc, ?_⟩
    have := h x List.mem_cons_self (fun o S' => match o with
      | some k => Br (k == true) (Q (.bl true) S') (pAnyL true chk g tt te E ρ0 Q (xs.map enc) S')
      | none => pAnyL true chk g tt te E ρ0 Q (xs.map enc) S') ?_
    · exact this
    · show Br (f x == true) _ _
      rw [List.any_cons] at q
      cases e : f x with
      | true => rw [e] at q; exact q
      | false => rw [e] at q; exact pAny_map enc f hc xs (fun y hy => h y (List.mem_cons_of_mem _ hy)) q
/-- all of f -/
theorem pAll_map {α : Type} {chk : Store → Prop} {g : PTG} {tt : PTT} {te : PTE} [MoG g] [MoT tt] [MoE te] {E : XW} {ρ0 : PEnv} {Q : PQ} {S : Store} (enc : α → PV) (f : α → Bool) (hc : chk S) : ∀ (xs : List α),
    (∀ x ∈ xs, ∀ Qk, Qk (some (f x)) S → anStep g tt te E ρ0 (enc x) S Qk) → Q (.bl (xs.all f)) S → pAnyL false chk g tt te E ρ0 Q (xs.map enc) S
  | [], _, q => ⟨hc, q⟩
  | x :: xs, h, q => by
    refine ⟨hc, ?_⟩
    have := h x List.mem_cons_self (fun o S' => match o with
      | some k => Br (k == false) (Q (.bl false) S') (pAnyL false chk g tt te E ρ0 Q (xs.map enc) S')
      | none => pAnyL false chk g tt te E ρ0 Q (xs.map enc) S') ?_
    · exact this
    · show Br (f x == false) _ _
      rw [List.all_cons] at q
      cases e : f x with
      | false => rw [e] at q; exact q
      | true => rw [e] at q; exact pAll_map enc f hc xs (fun y hy => h y (List.mem_cons_of_mem _ hy)) q
end L2.P3
/-! P3jc: for .. in combinations(a, n). -/
namespace L2.P3
open PySem PySem.Spec PyProof.Rows L2 Cmb
/-- the lots one by one, each in a new tuple -/
def ItC (xs : List V) (L : List (List Nat)) : It where
  go i _ := i < L.length
  yld i H v H' := ∃ T l, v = .ref T ∧ L[i]? = some l ∧ H T = none ∧ H' = upd H T (.tup (pickV xs l))
  stop i _ := L.length ≤ i
theorem comb_turns {P : Program} {w : World} {K : PySem.W.Frag} {tg : Expr} {it pool : Addr} {items : List Value} {xs : List V} {L : List (List Nat)} (rv : Vals xs items) (hne : it ≠ pool) (hlen : ∀ l ∈ L, l.length ≤ 1000) :
    Turn P w K tg (ItC xs L) [it, pool] it (fun i h => ∃ st last ix, IsCmb h it pool st last ix ∧ h.IsTuple pool items.toArray ∧ Rem items.length st last ix (L.drop i)) where
  mem := by simp
  obj := fun i h st b hb => by
    obtain ⟨st, last, ix, h1, h2, _⟩ := st
    have e' : b = it ∨ b = pool := by simpa using hb
    rcases e' with z | z
    · rw [z]; exact ⟨_, h1, fun v q => nomatch q⟩
    · rw [z]
      obtain ⟨o, ho, hc, n, hd⟩ := h2
      exact ⟨o, ho, fun v q => by rw [hd] at q; cases q⟩
  keep := fun i h h' st k => by
    obtain ⟨st, last, ix, h1, ⟨o, ho, q⟩, h3⟩ := st
    exact ⟨st, last, ix, k it (by simp) _ h1, ⟨o, k pool (by simp) o ho, q⟩, h3⟩
  item := by
    rintro X rfl rfl rfl hc i pins s σ H E I hf ⟨st, last, ix, hit, hp, hrem⟩ hi
    have hd : L.drop i = L[i] :: L.drop (i + 1) := List.drop_eq_getElem_cons hi
    generalize hnx : L[i] = nx at hd
    have hnxl : L[i]? = some nx := by rw [List.getElem?_eq_getElem hi, hnx]
    have hl : nx.length ≤ 1000 := hlen nx (hnx ▸ List.getElem_mem hi)
    have hzz : nx.length ≤ sizeLine := Nat.le_trans hl (by decide)
    have hitlt : it < s.heap.objs.size := Heap.lt_size hit
    have hpolt : pool < s.heap.objs.size := by
      obtain ⟨o, e, _⟩ := id hp
      exact Heap.lt_size e
    rw [hd] at hrem
    have turn : ∀ h' r, s.heap.objs.size ≤ r → IsCmb h' it pool 1 (.ref r) nx → h'.IsTuple r (nx.map fun i => items.toArray.getD i .none).toArray → (∀ b o, b ≠ it → s.heap.get? b = some o → h'.get? b = some o) → After items.length nx (L.drop (i + 1)) →
        ∃ u, some (Value.ref r) = some u ∧ wpAny (model X.prog X.w) X.A (letOwnedTupleGo tg (.ref it) u) (fun _ s2 => ∃ x H', Inv X pins σ H' s2 ∧ RelV x u ∧ (ItC xs L).yld i H x H' ∧ (∃ st last ix, IsCmb s2.heap it pool st last ix ∧ s2.heap.IsTuple pool items.toArray ∧ Rem items.length st last ix (L.drop (i + 1))) ∧ ∀ b ∈ [it, pool], H' b = none) E { s with heap := h' } := by
      intro h' r hr hit' ht hk haf
      have I1 : Inv X pins σ (upd H r (.tup (pickV xs nx))) { s with heap := h', toks := s.toks } := I.turnedNew (ch := [it]) (fun b o hb e => hk b o (fun z => hb (by rw [z]; simp)) e) (fun b hb => (show b = it by simpa using hb) ▸ hf it (by simp)) hr ⟨by rw [pickV, List.length_map]; exact hzz, _, vals_pick rv nx, ht⟩
      refine ⟨_, rfl, go_of (s := { s with heap := h' }) (n := "itertools.combinations") hit' rfl rfl (by decide) ⟨.ref r, _, I1, rfl, ⟨r, nx, rfl, hnxl, I.hok.fresh hr, rfl⟩, ⟨1, .ref r, nx, hit', ?_, .inr (.inl ⟨rfl, haf⟩)⟩, fun b hb => ?_⟩⟩
      · obtain ⟨o, e, q⟩ := hp
        exact ⟨o, hk _ _ (Ne.symm hne) e, q⟩
      · have hb' : b < s.heap.objs.size := by
          have e' : b = it ∨ b = pool := by simpa using hb
          rcases e' with z | z
          · rw [z]; exact hitlt
          · rw [z]; exact hpolt
        rw [upd_ne (Nat.ne_of_lt (Nat.lt_of_lt_of_le hb' hr))]
        exact (hf b hb).1
    rcases hrem with ⟨_, h2⟩ | ⟨rfl, h2⟩ | ⟨rfl, rfl, L', h3, h4⟩
    · cases h2
    · obtain ⟨h2, h3⟩ := h2
      refine next_c hit hp hne (by simpa using h2) hzz fun h' r hr hit' ht hk => ?_
      exact turn h' r hr hit' ht hk h3
    · cases h3
      refine first_c hit hp hne hzz fun h' r hr hit' ht hk => ?_
      exact turn h' r hr hit' ht hk h4
  done := by
    rintro X rfl rfl rfl hc i pins s σ H E I hf ⟨st, last, ix, hit, hp, hrem⟩ hi
    have hd : L.drop i = [] := List.drop_eq_nil_of_le hi
    rw [hd] at hrem
    refine end_c (I.ok.hd hc) hit hp hne ?_ fun h' hk => ⟨rfl, I.turnedL (t' := s.toks) (ch := [it]) (fun b o hb e => hk b o (fun z => hb (by rw [z]; simp)) e) fun b hb => (show b = it by simpa using hb) ▸ hf it (by simp)⟩
    rcases hrem with ⟨h1, _⟩ | ⟨h1, h2⟩ | ⟨_, _, L', h3, _⟩
    · exact .inl h1
    · exact .inr ⟨h1, by simpa [After] using h2⟩
    · cases h3
  self := fun A i s Q E st h => let ⟨_, _, _, h1, _⟩ := st; iter_c h1 h
def iCombS (K : PySem.W.Frag) (t : TA) : TI := fun σ H R => t σ H fun vs H1 => ∃ (l : Addr) (n : Int) (xs : List V) (L : List (List Nat)), vs = [.ref l, .int n] ∧ (SqL K H1 l xs ∨ SqT K H1 l xs) ∧ 0 ≤ n ∧ n ≤ 1000 ∧ Enum xs.length n.toNat L ∧ (∀ l ∈ L, l.length ≤ 1000) ∧ R (ItC xs L) H1
section
variable {X : Cx} {t : TA} {a b : Expr} {p2 pos2 : Pos} {tg : Expr}
theorem pi_combS (hgc : Gl X "combinations") (hmc : X.mg "combinations" = some (.type "itertools.combinations")) (ha : PA X [a, b] t)
    (hs : starEach [a, b] X.env = (false, eval a X.env) :: starEach [b] X.env := by rfl) (hpl : (backTo pos2 (starEach [b] X.env)).any (·.1) = false := by rfl) :
    PI X tg (.Call (.Name "combinations" p2) [a, b] [] pos2) (iCombS X.K t) := by
  refine ⟨fun pins s σ H R I h => ?_⟩
  refine wpAny_Call_Name_kw (ld_glob I hgc hmc ?_)
  refine PyProof.Rows.callWith_type1 (thn (ha.run pos2 pins s σ H _ I h) fun us s1 ⟨vs, H1, I1, r1, q1⟩ => ?_) hs hpl
  obtain ⟨l, n, xs, L, rfl, hsq, h0, h1, hen, hlen, q⟩ := q1
  obtain ⟨tk, rfl⟩ : ∃ tk, us = [Value.ref l, .int n tk] := by
    cases r1 with
    | cons r rr =>
      cases rr with
      | cons r' rr =>
        cases rr
        cases r
        obtain ⟨tk, rfl⟩ := (show ∃ t, _ = Value.int n t from r')
        exact ⟨tk, rfl⟩
  obtain ⟨T, o, items, m, hT, ho, hoc, hod, rv, hzx⟩ : ∃ (T : String) (o : Obj) (items : List Value) (m : Nat), (T = "list" ∨ T = "tuple") ∧ s1.heap.get? l = some o ∧ o.cls = .type T ∧ o.data = .seq items.toArray m ∧ Vals xs items ∧ xs.length ≤ sizeLine := by
    rcases hsq with hq | hq
    · obtain ⟨its, r', pl, hz⟩ := I1.list hq
      obtain ⟨o, ho, hc, n, hd⟩ := pl.isList
      exact ⟨"list", o, its, n, .inl rfl, ho, hc, hd, r', hz⟩
    · obtain ⟨its, r', pl, hz⟩ := I1.tuple hq
      obtain ⟨o, ho, hc, n, hd⟩ := pl
      exact ⟨"tuple", o, its, n, .inr rfl, ho, hc, hd, r', hz⟩
  have hlx : items.length = xs.length := rv.length.symm
  refine call_c hT ho hoc hod h0 h1 (by rw [List.size_toArray, hlx]; exact hzx) fun h' it pool hitn hpooln hne hc0 hpt hk => ?_
  refine iter_c (s := { s1 with heap := h' }) hc0 ?_
  have I2 : Inv X pins σ H1 { s1 with heap := h' } := I1.kept (t' := s1.toks) hk
  have rem : Rem items.length (if n.toNat > items.toArray.size then 2 else 0) .none (List.range n.toNat) L := by
    rw [List.size_toArray, hlx]
    rcases hen with ⟨hlt, rfl⟩ | ⟨hle, L', rfl, haf⟩
    · rw [if_pos hlt]; exact .inl ⟨rfl, rfl⟩
    · rw [if_neg (by omega)]; exact .inr (.inr ⟨rfl, rfl, L', rfl, haf⟩)
  refine ⟨it, [it, pool], _, _, H1, rfl, I2, comb_turns rv hne hlen, ⟨_, _, _, hc0, hpt, rem⟩, fun b hb => ?_, q⟩
  have hle : s1.heap.objs.size ≤ b := by
    have e' : b = it ∨ b = pool := by simpa using hb
    rcases e' with z | z
    · rw [z]; exact hitn
    · rw [z]; exact hpooln
  exact I1.fpOk hle (I1.hok.fresh hle)
end
def iComb (f g : PTE) : PTI := fun E ρ S R => f E ρ S fun x S1 => g E ρ S1 fun y S2 => onO (its S2 x) fun xs => onInt y fun n => (0 ≤ n ∧ n ≤ 1000) ∧ R ⟨(subs xs n.toNat).map .tup, fun _ => True⟩ S2
instance {f g : PTE} [MoE f] [MoE g] : MoI (iComb f g) := ⟨fun h q => MoE.mo (f := f) (fun x _ q => MoE.mo (f := g) (fun y _ q => onO_mo (fun _ q => onInt_mo (fun _ q => ⟨q.1, h _ _ q.2⟩) q) q) q) q⟩
theorem qi_comb {bk : BagKind} {X : Cx} {h h2 : PTE} {a b tg : Expr} {p2 pos2 : Pos} (hgc : Gl X "combinations") (hmc : X.mg "combinations" = some (.type "itertools.combinations")) (ha : QE bk X a h) (hb : QE bk X b h2)
    (hs : starEach [a, b] X.env = (false, eval a X.env) :: starEach [b] X.env := by rfl) (hs2 : starEach (b :: []) X.env = (false, eval b X.env) :: starEach [] X.env := by rfl) (hpl : (backTo pos2 (starEach [b] X.env)).any (·.1) = false := by rfl) :
    QI bk X tg (.Call (.Name "combinations" p2) [a, b] [] pos2) (iComb h h2) := by
  obtain ⟨ta, pa, wa⟩ := ha.ex
  obtain ⟨tb, pb, wb⟩ := hb.ex
  refine ⟨_, pi_combS hgc hmc (pa_cons pa (pa_cons pb pa_nil hs2) hs) hs hpl, fun E M ρ S σ H R R' rel q k => ?_⟩
  refine wa E M ρ S σ H _ _ rel q fun M1 S1 H1 x v t1 s1 r1 q1 => ?_
  refine wb E M1 ρ S1 σ H1 _ _ (rel.step t1 s1) q1 fun M2 S2 H2 y w t2 s2 r2 q2 => ?_
  obtain ⟨xs, ex, q2⟩ := onO_ex q2
  obtain ⟨n, rfl, ⟨h0, h1⟩, q2⟩ := onInt_ex q2
  have r1' := r1.step s1 t2
  obtain ⟨a, vs, rfl, qx, rxs⟩ := its_side s2 r1' ex
  rw [Rp] at r2
  subst r2
  have hlx : vs.length = xs.length := rxs.length
  have e : (subs (List.range vs.length) n.toNat).map (fun l => PV.tup (l.map fun i => xs.getD i .non)) = (subs xs n.toNat).map .tup := by
    rw [hlx, ← subs_pick .non xs n.toNat, List.map_map]
    rfl
  refine ⟨a, n, vs, subs (List.range vs.length) n.toNat, rfl, ?_, h0, h1, enum_subs _ _, fun l hl => ?_, k M2 S2 H2 _ _ (t1.trans t2) s2 (fun M S H i t s ck => ?_) q2⟩
  · cases hT : isTup x
    · rw [hT] at qx; exact .inl qx
    · rw [hT] at qx; exact .inr qx
  · rw [subs_len _ _ _ hl]; omega
  · show (∀ x, ((subs xs n.toNat).map PV.tup)[i]? = some x → _) ∧ (((subs xs n.toNat).map PV.tup)[i]? = none → _)
    rw [← e]
    refine ⟨fun z ez => ?_, fun ez => ?_⟩
    · rw [List.getElem?_map] at ez
      cases hl : (subs (List.range vs.length) n.toNat)[i]? with
      | none => rw [hl] at ez; cases ez
      | some l =>
        rw [hl] at ez
        cases ez
        refine ⟨(List.getElem?_eq_some_iff.mp hl).1, fun v' H' yl => ?_⟩
        obtain ⟨T, l', rfl, hl', hT, rfl⟩ := yl
        rw [hl] at hl'
        cases hl'
        exact ⟨Step.laid hT, s.laid hT, to_tup (SqT.of upd_same) (rps_pick (rxs.step s2 (t.trans (Step.laid hT))) _)⟩
    · show (subs (List.range vs.length) n.toNat).length ≤ i
      simpa using ez
end L2.P3
/-! P3jd: list(range(a, b, c)). -/
namespace L2.P3
open PySem PySem.Spec PyProof.Rows L2
def rgC3 (i c : Int) (n : Nat) : List V := (List.range n).map fun (k : Nat) => V.int (i + k * c)
theorem vals_rg3 {a c : Int} {n : Nat} {acc : Array Value} (h : ItemsOf (fun i v => ∃ t, v = .int (a + i * c) t) acc n) : Vals (rgC3 a c n) acc.toList := by
  refine vals_of_at (by simp [rgC3, h.1]) fun j x u hx hu => ?_
  obtain ⟨hj, ej⟩ := List.getElem?_eq_some_iff.mp hx
  obtain ⟨hu1, hu2⟩ := List.getElem?_eq_some_iff.mp hu
  simp only [rgC3, List.getElem_map, List.getElem_range] at ej
  subst ej
  obtain ⟨t, e⟩ := h.2 j u (by simpa using hu)
  exact ⟨t, e⟩
def tLstRg3 (t : TA) : TE := fun σ H Q => t σ H fun vs H1 => ∃ (i j c : Int) (n : Nat), vs = [.int i, .int j, .int c] ∧ RgC i j c n ∧ n ≤ 16777216 ∧ ∀ q, H1 q = none → Q (.ref q) (upd H1 q (.lst (rgC3 i c n)))
theorem pe_listRg3 {X : Cx} {a b c : Expr} {ta : TA} {p pos p2 pos2 : Pos} (hc : X.calm = true) (hg : Gl X "list") (hm : X.mg "list" = none) (hg2 : Gl X "range") (hm2 : X.mg "range" = none) (ha : PA X [a, b, c] ta)
    (hs : starEach [a, b, c] X.env = (false, eval a X.env) :: starEach [b, c] X.env := by rfl) (hpl : (backTo pos2 (starEach [b, c] X.env)).any (·.1) = false := by rfl)
    (na : starEach [.Call (.Name "range" p2) [a, b, c] [] pos2] X.env = (false, eval (.Call (.Name "range" p2) [a, b, c] [] pos2) X.env) :: starEach [] X.env := by rfl) :
    PE X (.Call (.Name "list" p) [.Call (.Name "range" p2) [a, b, c] [] pos2] [] pos) (tLstRg3 ta) := by
  refine ⟨fun pins s σ H Q I h => ?_⟩
  refine Call_ (ld_blt I hg hm boot_list (PyProof.Rows.callWith_type1 (args_cons ?_ na) na))
  refine Call_ (ld_blt I hg2 hm2 boot_range (PyProof.Rows.callWith_type1 (thn (ha.run pos2 pins s σ H _ I h) fun us s1 ⟨vs, H1, I1, r1, q1⟩ => ?_) hs hpl))
  obtain ⟨i, j, k, n, e, ⟨c0, c1, c2, c3⟩, hz, q⟩ := q1
  subst e
  cases r1 with
  | cons r rr =>
    cases rr with
    | cons r' rr =>
      cases rr with
      | cons r'' rr =>
        cases rr
        obtain ⟨t, rfl⟩ := r
        obtain ⟨t', rfl⟩ := r'
        obtain ⟨t'', rfl⟩ := r''
        refine call_range_3 c0 ?_ (.inl (PyProof.noPylong_small c1))
        refine args_nil ?_
        have I2 : Inv X pins σ H1 { s1 with heap := s1.heap.push { cls := .type "range", data := .fields #[.int i t, .int j t', .int k t''] } } := I1.kept (t' := s1.toks) fun b o e => Heap.get?_push_of_some _ e
        refine call_list_range (n := n) (I2.ok.hd hc) (IsRange.new ..) c2 c3 (Nat.le_trans hz (by decide)) fun h' tk acc c' hk e' hi => ?_
        refine ⟨.ref _, upd H1 _ (.lst (rgC3 i k n)), I2.laid hk (Nat.le_refl _) (show ObjOk X.prog X.w _ _ _ (.lst (rgC3 i k n)) from ⟨?_, acc.toList, c', vals_rg3 hi, ?_⟩), rfl, q _ (I2.hok.fresh (Nat.le_refl _))⟩
        · rw [rgC3, List.length_map, List.length_range, sizeLine_eq]; exact Nat.le_trans hz (by decide)
        · rw [Array.toArray_toList]; exact e'
def pListR3 (f g h : PTE) : PTE := fun E ρ S Q => f E ρ S fun x S1 => g E ρ S1 fun y S2 => h E ρ S2 fun z S3 => onInt x fun i => onInt y fun j => onInt z fun c => ∃ n, RgC i j c n ∧ n ≤ 16777216 ∧ Q (.lst S3.length) (S3 ++ [(List.range n).map fun (k : Nat) => PV.int (i + k * c)])
instance {f g h : PTE} [MoE f] [MoE g] [MoE h] : MoE (pListR3 f g h) := ⟨fun k q => MoE.mo (f := f) (fun _ _ q => MoE.mo (f := g) (fun _ _ q => MoE.mo (f := h) (fun _ _ q => onInt_mo (fun _ q => onInt_mo (fun _ q => onInt_mo (fun _ ⟨n, a, z, b⟩ => ⟨n, a, z, k _ _ b⟩) q) q) q) q) q) q⟩
theorem q_listR3 {bk : BagKind} {X : Cx} {f g h : PTE} {a b c : Expr} {p pos p2 pos2 : Pos} (hcm : X.calm = true) (hg : Gl X "list") (hm : X.mg "list" = none) (hg2 : Gl X "range") (hm2 : X.mg "range" = none) (ha : QE bk X a f) (hb : QE bk X b g) (hc : QE bk X c h)
    (hs : starEach [a, b, c] X.env = (false, eval a X.env) :: starEach [b, c] X.env := by rfl) (hs2 : starEach (b :: [c]) X.env = (false, eval b X.env) :: starEach [c] X.env := by rfl) (hs3 : starEach (c :: []) X.env = (false, eval c X.env) :: starEach [] X.env := by rfl) (hpl : (backTo pos2 (starEach [b, c] X.env)).any (·.1) = false := by rfl)
    (na : starEach [.Call (.Name "range" p2) [a, b, c] [] pos2] X.env = (false, eval (.Call (.Name "range" p2) [a, b, c] [] pos2) X.env) :: starEach [] X.env := by rfl) :
    QE bk X (.Call (.Name "list" p) [.Call (.Name "range" p2) [a, b, c] [] pos2] [] pos) (pListR3 f g h) := by
  obtain ⟨ta, pa, wa⟩ := ha.ex
  obtain ⟨tb, pb, wb⟩ := hb.ex
  obtain ⟨tc, pc, wc⟩ := hc.ex
  refine ⟨_, pe_listRg3 hcm hg hm hg2 hm2 (pa_cons pa (pa_cons pb (pa_cons pc pa_nil hs3) hs2) hs) hs hpl na, fun E M ρ S σ H Q Q' rel q k => ?_⟩
  refine wa E M ρ S σ H _ _ rel q fun M1 S1 H1 x v t1 s1 r1 q1 => ?_
  refine wb E M1 ρ S1 σ H1 _ _ (rel.step t1 s1) q1 fun M2 S2 H2 y w t2 s2 r2 q2 => ?_
  refine wc E M2 ρ S2 σ H2 _ _ (rel.step (t1.trans t2) s2) q2 fun M3 S3 H3 z u t3 s3 r3 q3 => ?_
  obtain ⟨i, rfl, q3⟩ := onInt_ex (x := x) q3
  obtain ⟨j, rfl, q3⟩ := onInt_ex (x := y) q3
  obtain ⟨c, rfl, n, hn, hz, q3⟩ := onInt_ex (x := z) q3
  rw [rp_int r1, rp_int r2, rp_int r3]
  exact ⟨i, j, c, n, rfl, hn, hz, (k.after (t1.trans (t2.trans t3))).lst s3 (rps_rg n fun (k : Nat) => i + k * c) q3⟩
theorem ok_falseS {P : Program} {w : World} {K : PySem.W.Frag} {mg : Str → Option Value} {base : Heap} {bk : BagKind} {CX : CXT} {k : Nat} {f : Addr} {fd : FuncData} {ps : List Str} : FnOk P w K mg base CX k f fd ps (spS bk K fun _ _ _ => False) :=
  ⟨fun _ _ _ _ ⟨_, _, _, _, _, z⟩ => z.elim, fun _ _ _ _ _ _ _ _ _ _ _ _ _ ⟨_, _, _, _, _, z⟩ => z.elim⟩
instance : MoF (fun _ _ _ => False) := ⟨fun _ q => q⟩
end L2.P3
/-! P3ka: whole lines by differences; the first number that ..; carries. -/
namespace L2.P3
open PySem PySem.Spec PyProof.Rows L2
def linA (k : Nat) : List Int → Int → Int
  | [], _ => 0
  | x :: v, n => bin n k * x + linA (k + 1) v n
abbrev lini (v : List Int) (n : Int) : Int := linA 0 v n
theorem linA_next : ∀ (v : List Int) (k : Nat) (n : Int), linA (k + 1) v (n + 1) = linA (k + 1) v n + linA k v n
  | [], k, n => by simp [linA]
  | x :: v, k, n => by
    rw [linA, linA, linA, linA_next v (k + 1) n, bin_pascal]
    grind
theorem lini_next (x : Int) (v : List Int) (n : Int) : lini (x :: v) (n + 1) = lini (x :: v) n + lini v n := by
  show bin (n + 1) 0 * x + linA (0 + 1) v (n + 1) = bin n 0 * x + linA (0 + 1) v n + linA 0 v n
  rw [bin_zero, bin_zero, linA_next]
  omega
theorem lini_tail (v : List Int) (n : Int) : lini v (n + 1) = lini v n + lini v.tail n := by
  cases v with
  | nil => simp [linA]
  | cons x v => exact lini_next x v n
theorem linA_zip : ∀ (v : List Int) (k : Nat) (n : Int), linA k v n = ((v.zipIdx k).map fun p => bin n p.2 * p.1).sum
  | [], k, n => rfl
  | x :: v, k, n => by rw [linA, List.zipIdx_cons, List.map_cons, List.sum_cons, linA_zip v (k + 1) n]
theorem linA_range : ∀ (v : List Int) (k : Nat) (n : Int), linA k v n = ((List.range v.length).map fun j => bin n (k + j) * v.getD j 0).sum
  | [], k, n => rfl
  | x :: v, k, n => by
    rw [linA, List.length_cons, List.range_succ_eq_map, List.map_cons, List.sum_cons, List.map_map, linA_range v (k + 1) n]
    congr 2
    refine List.map_congr_left fun j _ => ?_
    simp [Nat.add_comm, Nat.add_left_comm]
theorem linA_neg : ∀ (v : List Int) (k : Nat) (n : Int), linA k (v.map fun x => -x) n = -linA k v n
  | [], k, n => rfl
  | x :: v, k, n => by
    rw [List.map_cons, linA, linA, linA_neg v (k + 1) n]
    grind
theorem linA_sz {B c K : Nat} {n : Int} (hn : Sz B n) (hK : Sz B (K : Int)) : ∀ (v : List Int) (k : Nat), k + v.length ≤ K → (∀ x ∈ v, Sz c x) → Sz ((B + 1) * K + 1 + c + v.length) (linA k v n)
  | [], k, _, _ => sz_pos _
  | x :: v, k, h, hv => by
    have h' : k + v.length + 1 ≤ K := h
    have h1 := linA_sz hn hK v (k + 1) (by omega) fun y hy => hv y (List.mem_cons_of_mem _ hy)
    have h2 : Sz ((B + 1) * K + 1) (bin n k) := (sz_bin hn hK k (by omega)).mono (by
      have : (B + 1) * k ≤ (B + 1) * K := Nat.mul_le_mul_left _ (by omega)
      omega)
    have h3 := h2.mul (hv x List.mem_cons_self)
    rw [linA, List.length_cons]
    exact (h3.add h1 (c := (B + 1) * K + 1 + c + v.length) (by omega) (Nat.le_refl _))
theorem bin_nonneg : ∀ (n j : Nat), 0 ≤ bin (n : Int) j
  | _, 0 => by rw [bin_zero]; decide
  | 0, j + 1 => by rw [show ((0 : Nat) : Int) = 0 from rfl, bin_zero_succ]; decide
  | n + 1, j + 1 => by
    rw [show ((n + 1 : Nat) : Int) = (n : Int) + 1 by omega, bin_pascal]
    have h1 := bin_nonneg n (j + 1)
    have h2 := bin_nonneg n j
    omega
theorem linA_nonneg : ∀ (v : List Int) (k : Nat) (n : Int), 0 ≤ n → (∀ x ∈ v, 0 ≤ x) → 0 ≤ linA k v n
  | [], k, n, _, _ => Int.le_refl _
  | x :: v, k, n, hn, hv => by
    have h1 := linA_nonneg v (k + 1) n hn fun y hy => hv y (List.mem_cons_of_mem _ hy)
    have h2 : 0 ≤ bin n k := by
      have := bin_nonneg n.toNat k
      rwa [Int.toNat_of_nonneg hn] at this
    have h3 := Int.mul_nonneg h2 (hv x List.mem_cons_self)
    rw [linA]
    omega
theorem lini_up (v : List Int) (n : Int) (hn : 0 ≤ n) (hv : ∀ x ∈ v, 0 ≤ x) : lini v n ≤ lini v (n + 1) := by
  rw [lini_tail]
  have := linA_nonneg v.tail 0 n hn fun x hx => hv x (List.mem_of_mem_tail hx)
  show linA 0 v n ≤ linA 0 v n + linA 0 v.tail n
  omega
/-- steps up, one by one -/
theorem up_steps {f : Int → Int} {s e : Int} (h : ∀ n, s ≤ n → n < e → f n ≤ f (n + 1)) {a : Int} (ha : s ≤ a) : ∀ (k : Nat), a + k ≤ e → f a ≤ f (a + k)
  | 0, _ => by simp
  | k + 1, hk => by
    have h1 := up_steps h ha k (by omega)
    have h2 := h (a + k) (by omega) (by omega)
    rw [show a + ((k + 1 : Nat) : Int) = a + k + 1 by omega]
    omega
theorem up_le {f : Int → Int} {s e a b : Int} (h : ∀ n, s ≤ n → n < e → f n ≤ f (n + 1)) (ha : s ≤ a) (hab : a ≤ b) (hb : b ≤ e) : f a ≤ f b := by
  have := up_steps h ha (b - a).toNat (by omega)
  rwa [show a + ((b - a).toNat : Int) = b by omega] at this
theorem down_le {f : Int → Int} {s e a b : Int} (h : ∀ n, s ≤ n → n < e → f (n + 1) ≤ f n) (ha : s ≤ a) (hab : a ≤ b) (hb : b ≤ e) : f b ≤ f a := by
  have := up_le (f := fun n => -f n) (s := s) (e := e) (fun n h1 h2 => by have := h n h1 h2; omega) ha hab hb
  omega
/-- the first number from 0 to limit that P holds of, -1 if there is none -/
def IsFirst (P : Int → Prop) (limit r : Int) : Prop := (r = -1 ∧ ∀ n, 0 ≤ n → n ≤ limit → ¬ P n) ∨ (0 ≤ r ∧ r ≤ limit ∧ P r ∧ ∀ n, 0 ≤ n → n < r → ¬ P n)
theorem isFirst_one {P : Int → Prop} {limit r t : Int} (h : IsFirst P limit r) (h' : IsFirst P limit t) : r = t := by
  rcases h with ⟨h1, h2⟩ | ⟨h1, h2, h3, h4⟩ <;> rcases h' with ⟨k1, k2⟩ | ⟨k1, k2, k3, k4⟩
  · omega
  · exact absurd k3 (h2 t k1 k2)
  · exact absurd h3 (k2 r h1 h2)
  · by_cases c : r < t
    · exact absurd h3 (k4 r h1 c)
    · by_cases c2 : t < r
      · exact absurd k3 (h4 t k1 c2)
      · omega
/-- carries of a + b, k figures -/
def cn : Nat → Int → Int → Int → Int
  | 0, _, _, _ => 0
  | k + 1, a, b, c => (a % 10 + b % 10 + c) / 10 + cn k (a / 10) (b / 10) ((a % 10 + b % 10 + c) / 10)
theorem cn_comm : ∀ (k : Nat) (a b c : Int), cn k a b c = cn k b a c
  | 0, _, _, _ => rfl
  | k + 1, a, b, c => by rw [cn, cn, cn_comm k, Int.add_comm (a % 10)]
theorem cn_zero : ∀ k : Nat, cn k 0 0 0 = 0
  | 0 => rfl
  | k + 1 => by
    show (0 : Int) + cn k 0 0 0 = 0
    rw [cn_zero k]
    rfl
theorem cn_in : ∀ (k : Nat) (a b c : Int), 0 ≤ c → c ≤ 1 → 0 ≤ cn k a b c ∧ cn k a b c ≤ k
  | 0, _, _, _, _, _ => ⟨Int.le_refl _, Int.le_refl _⟩
  | k + 1, a, b, c, h0, h1 => by
    have := cn_in k (a / 10) (b / 10) ((a % 10 + b % 10 + c) / 10) (by omega) (by omega)
    rw [cn]
    omega
theorem numd_ints (v : List Int) : numd (v.map PV.int) = v.zipIdx.map fun p : Int × Nat => PV.tup [.int (p.2 : Int), .int p.1] := by
  unfold numd
  rw [List.zipIdx_map, List.map_map]
  rfl
theorem pSumL_numd {chk : Store → Prop} {g : PTG} {tt : PTT} {te : PTE} [MoG g] [MoT tt] [MoE te] {E : XW} {ρ0 : PEnv} {Q : PQ} {S : Store} (f : Int × Nat → Int) (hc : chk S) (v : List Int) (acc : Int)
    (h : ∀ p ∈ v.zipIdx, p.2 < v.length → p.1 ∈ v → ∀ Qk, Qk (f p) S → smStep g tt te E ρ0 (.tup [.int (p.2 : Int), .int p.1]) S Qk) (q : Q (.int (acc + (v.zipIdx.map f).sum)) S) : pSumL chk g tt te E ρ0 Q (numd (v.map PV.int)) acc S := by
  rw [numd_ints]
  refine pSumL_map (fun p : Int × Nat => PV.tup [.int (p.2 : Int), .int p.1]) f hc _ _ (fun p hp => h p hp ?_ (List.fst_mem_of_mem_zipIdx hp)) ?_
  · have := List.snd_lt_add_of_mem_zipIdx hp
    omega
  · rw [foldl_sum]
    exact q
/-- numbers as far as 10 ^ 60, at most eight values of 13 bits -/
def lim : Int := 10 ^ 60
theorem sz_lim {n : Int} (h0 : -lim ≤ n) (h1 : n ≤ lim + 1) : Sz 210 n := by
  have e : lim = 1000000000000000000000000000000000000000000000000000000000000 := by decide
  exact sz_le (b := 10 ^ 60 + 1) (by omega) (by omega) (by decide)
structure Vok (v : List Int) : Prop where
  len : v.length ≤ 8
  sz : ∀ x ∈ v, Sz 13 x
theorem Vok.tail {v : List Int} (h : Vok v) : Vok v.tail := ⟨by have := h.len; rw [List.length_tail]; omega, fun x hx => h.sz x (List.mem_of_mem_tail hx)⟩
theorem Vok.drop {v : List Int} (h : Vok v) (k : Nat) : Vok (v.drop k) := ⟨by have := h.len; rw [List.length_drop]; omega, fun x hx => h.sz x (List.mem_of_mem_drop hx)⟩
theorem Vok.neg {v : List Int} (h : Vok v) : Vok (v.map fun x => -x) := ⟨by have := h.len; rw [List.length_map]; omega, fun x hx => by
  obtain ⟨y, hy, rfl⟩ := List.mem_map.mp hx
  exact (h.sz y hy).neg⟩
end L2.P3
/-! P3kb: sum, max, min of a tuple of whole numbers. -/
namespace L2.P3
open PySem PySem.Spec PyProof.Rows L2
section
variable {prog : Program} {w : World} {A : Around} {E : Value → Shared → Prop} {s : Shared} {l : Addr} {xs : Array (Int × Tok)} {its : List Value} {ns : List Int} {Q : Value → Shared → Prop}
theorem iter_intTuple {Q : Value → Shared → Prop} (hl : s.heap.IsTuple l (intItems xs))
    (h : ∀ s₂ : Shared, s₂ = { s with heap := s.heap.push { cls := .type "tuple_iterator", data := .fields #[.ref l, .int 0 0] } } →
      (s₂.heap.IsTupleIter s.heap.objs.size l 0 ∧ s₂.heap.IsTuple l (intItems xs)) → (∀ b ∈ [s.heap.objs.size, l], b < s₂.heap.objs.size) → l ≠ s.heap.objs.size → Q (.ref s.heap.objs.size) s₂) :
    wpAny (model prog w) A (pyIter (.ref l)) Q E s := by
  have hlt : l < s.heap.objs.size := by obtain ⟨_, e, _⟩ := id hl; exact Heap.lt_size e
  have hl2 : (s.heap.push { cls := .type "tuple_iterator", data := .fields #[.ref l, .int 0 0] }).IsTuple l (intItems xs) := by
    obtain ⟨o, e, q⟩ := id hl
    exact ⟨o, Heap.get?_push_of_some _ e, q⟩
  refine wpAny_pyIter_tuple hl (h _ rfl ⟨⟨_, Heap.get?_push_size _ rfl, rfl, rfl⟩, hl2⟩ (fun b hb => ?_) (Nat.ne_of_lt hlt))
  show b < (s.heap.push _).objs.size
  rw [Heap.size_push]
  have e' : b = s.heap.objs.size ∨ b = l := by simpa using hb
  rcases e' with rfl | rfl
  · exact Nat.lt_succ_self _
  · exact Nat.lt_succ_of_lt hlt
theorem old_kept2 {h h2 : Heap} {o : Obj} {I l : Addr} (hI : I = h.objs.size) (hk : ∀ b o', b ∉ [I] → (h.push o).get? b = some o' → h2.get? b = some o') : ∀ b o', h.get? b = some o' → h2.get? b = some o' := fun b o' e => by
  refine hk b o' (fun hb => ?_) (Heap.get?_push_of_some _ e)
  have e1 : b = I := by simpa using hb
  have e2 := Heap.lt_size e
  rw [e1, hI] at e2
  exact Nat.lt_irrefl _ e2
theorem sum_rawT (hh : A.handled = none) (hl : s.heap.IsTuple l its.toArray) (hi : IntsAre its ns)
    (h : ∀ h' tk t', (∀ b o, s.heap.get? b = some o → h'.get? b = some o) → Q (.int ns.sum t') { s with heap := h', toks := tk }) : wpAny (model prog w) A (call (.builtin "sum") [.ref l]) Q E s := by
  obtain ⟨xs, e⟩ := hi.allInts.items
  have hn : numsOf (intItems xs).toList = ns := by rw [← e]; exact hi.numsOf
  rw [nums_intItems] at hn
  rw [e] at hl
  refine call_sum_walkG (iter_intTuple hl fun s₂ e st hfp hlI => ?_)
  subst e
  refine ⟨_, _, _, _, _, _, numAt xs, rfl, Walks.tuple (A := A.in1) hh _ l hlI (intItems xs), st, hfp, (fun _ _ => intItems_at), fun h' tk t' hk => ?_⟩
  have := h h' tk t' (old_kept2 (l := l) rfl hk)
  have e2 : (intItems xs).size = xs.size := by simp [intItems]
  rw [e2, preSum_eq, List.take_of_length_le (by simp), hn]
  exact this
theorem max_rawT (hh : A.handled = none) (hl : s.heap.IsTuple l its.toArray) (hi : IntsAre its ns) (hne : 0 < ns.length)
    (h : ∀ h' tk M t', (∀ b o, s.heap.get? b = some o → h'.get? b = some o) → M ∈ ns → (∀ a, a ∈ ns → a ≤ M) → Q (.int M t') { s with heap := h', toks := tk }) : wpAny (model prog w) A (call (.builtin "max") [.ref l]) Q E s := by
  obtain ⟨xs, e⟩ := hi.allInts.items
  have hn : numsOf (intItems xs).toList = ns := by rw [← e]; exact hi.numsOf
  rw [nums_intItems] at hn
  subst hn
  rw [e] at hl
  have hsz : 0 < xs.size := by simpa using hne
  refine call_max_walk (iter_intTuple hl fun s₂ e st hfp hlI => ?_)
  subst e
  refine ⟨_, _, _, _, _, _, _, rfl, Walks.tuple (A := A.in1) hh _ l hlI (intItems xs), st, hfp, by simpa [intItems] using hsz, CmpOf.ints_gt (numAt xs) (fun _ _ => intItems_at), fun v h' tk hP hk => ?_⟩
  have hv : (intItems xs)[argBest (fun i j => decide (numAt xs i > numAt xs j)) (xs.size - 1)]? = some v := by simpa [intItems] using hP
  obtain ⟨t, rfl⟩ := intItems_at hv
  obtain ⟨h1, h2⟩ := argBest_gt (numAt xs) (xs.size - 1)
  refine h h' tk _ t (old_kept2 (l := l) rfl hk) ?_ fun a ha => ?_
  · rw [numAt_eq]; exact PySem.getD_mem (by rw [List.length_map, Array.length_toList]; omega)
  · obtain ⟨j, hj, rfl⟩ := mem_getD ha
    rw [List.length_map, Array.length_toList] at hj
    rw [← numAt_eq]; exact h2 j (by omega)
theorem min_rawT (hh : A.handled = none) (hl : s.heap.IsTuple l its.toArray) (hi : IntsAre its ns) (hne : 0 < ns.length)
    (h : ∀ h' tk M t', (∀ b o, s.heap.get? b = some o → h'.get? b = some o) → M ∈ ns → (∀ a, a ∈ ns → M ≤ a) → Q (.int M t') { s with heap := h', toks := tk }) : wpAny (model prog w) A (call (.builtin "min") [.ref l]) Q E s := by
  obtain ⟨xs, e⟩ := hi.allInts.items
  have hn : numsOf (intItems xs).toList = ns := by rw [← e]; exact hi.numsOf
  rw [nums_intItems] at hn
  subst hn
  rw [e] at hl
  have hsz : 0 < xs.size := by simpa using hne
  refine call_min_walk (iter_intTuple hl fun s₂ e st hfp hlI => ?_)
  subst e
  refine ⟨_, _, _, _, _, _, _, rfl, Walks.tuple (A := A.in1) hh _ l hlI (intItems xs), st, hfp, by simpa [intItems] using hsz, CmpOf.ints_lt (numAt xs) (fun _ _ => intItems_at), fun v h' tk hP hk => ?_⟩
  have hv : (intItems xs)[argBest (fun i j => decide (numAt xs i < numAt xs j)) (xs.size - 1)]? = some v := by simpa [intItems] using hP
  obtain ⟨t, rfl⟩ := intItems_at hv
  obtain ⟨h1, h2⟩ := argBest_lt (numAt xs) (xs.size - 1)
  refine h h' tk _ t (old_kept2 (l := l) rfl hk) ?_ fun a ha => ?_
  · rw [numAt_eq]; exact PySem.getD_mem (by rw [List.length_map, Array.length_toList]; omega)
  · obtain ⟨j, hj, rfl⟩ := mem_getD ha
    rw [List.length_map, Array.length_toList] at hj
    rw [← numAt_eq]; exact h2 j (by omega)
end
section
variable {X : Cx}
def rSumT (K : PySem.W.Frag) : List V → Hp → VK → Prop := fun vs H Q => ∃ (a : Addr) (ns : List Int), vs = [V.ref a] ∧ SqT K H a (ns.map V.int) ∧ Q (.int ns.sum) H
def rMaxT (K : PySem.W.Frag) : List V → Hp → VK → Prop := fun vs H Q => ∃ (a : Addr) (ns : List Int), vs = [V.ref a] ∧ SqT K H a (ns.map V.int) ∧ 0 < ns.length ∧ ∀ m, m ∈ ns → (∀ y, y ∈ ns → y ≤ m) → Q (.int m) H
def rMinT (K : PySem.W.Frag) : List V → Hp → VK → Prop := fun vs H Q => ∃ (a : Addr) (ns : List Int), vs = [V.ref a] ∧ SqT K H a (ns.map V.int) ∧ 0 < ns.length ∧ ∀ m, m ∈ ns → (∀ y, y ∈ ns → m ≤ y) → Q (.int m) H
theorem cr_sumT (hc : X.calm = true) : CallR X (.builtin "sum") (rSumT X.K) := by
  intro pins s σ H vs us Q I r h
  obtain ⟨a, ns, rfl, hs, q⟩ := h
  obtain ⟨its, rv, hl, _⟩ := I.tuple hs
  rw [Vals.ref1 r]
  exact sum_rawT (I.ok.hd hc) (show s.heap.IsTuple a its.toArray from hl) rv.ints fun h' tk t' hk => ⟨.int _, H, I.kept hk, ⟨_, rfl⟩, q⟩
theorem cr_maxT (hc : X.calm = true) : CallR X (.builtin "max") (rMaxT X.K) := by
  intro pins s σ H vs us Q I r h
  obtain ⟨a, ns, rfl, hs, hne, q⟩ := h
  obtain ⟨its, rv, hl, _⟩ := I.tuple hs
  rw [Vals.ref1 r]
  exact max_rawT (I.ok.hd hc) (show s.heap.IsTuple a its.toArray from hl) rv.ints hne fun h' tk m t' hk h1 h2 => ⟨.int _, H, I.kept hk, ⟨_, rfl⟩, q m h1 h2⟩
theorem cr_minT (hc : X.calm = true) : CallR X (.builtin "min") (rMinT X.K) := by
  intro pins s σ H vs us Q I r h
  obtain ⟨a, ns, rfl, hs, hne, q⟩ := h
  obtain ⟨its, rv, hl, _⟩ := I.tuple hs
  rw [Vals.ref1 r]
  exact min_rawT (I.ok.hd hc) (show s.heap.IsTuple a its.toArray from hl) rv.ints hne fun h' tk m t' hk h1 h2 => ⟨.int _, H, I.kept hk, ⟨_, rfl⟩, q m h1 h2⟩
end
section
variable {bk : BagKind} {K : PySem.W.Frag}
def oSumT : PCl := fun xs S Q => match xs with
  | [.tup ys] => onO (asInts ys) fun ns => Q (.int ns.sum) S
  | _ => False
instance : MoC oSumT := ⟨fun h q => by unfold oSumT at q ⊢; split at q <;> first | exact q.elim | exact onO_mo (fun _ q => h _ _ q) q⟩
theorem oSumTP : ClP bk K (rSumT K) oSumT := fun M S H x v Q Q' s r q p => by
  unfold oSumT at q
  split at q
  · obtain ⟨v, rfl, z⟩ := rps1 r
    obtain ⟨ns, e0, q⟩ := onO_ex q
    obtain ⟨a, vs, rfl, h1, sv⟩ := rp_tup z
    rw [asInts_eq e0] at sv
    rw [rps_ints sv] at h1
    exact ⟨a, ns, rfl, h1, p M S H _ _ (.refl M H) s to_int q⟩
  · exact q.elim
end
end L2.P3
/-! P3kc: instances of the program's own classes: made, their attributes read and set, their methods called. -/
namespace L2.P3
open PySem PySem.Spec PyProof.Rows L2
/-- what the class nm is: at C, its instances' attributes fs -/
structure TCls (K : PySem.W.Frag) (C : Addr) (nm : Str) (fs : List Str) : Prop where
  cl : Cls K C
  at_ : PySem.W.nsIn K mainGlobals nm = some (some (.ref C))
  no : ∀ f ∈ fs, NoAttr K C f
  nd : fs.Nodup
  few : fs.length < 1000
theorem strs_inj : ∀ {a b : List Str}, a.map PV.str = b.map PV.str → a = b
  | [], [], _ => rfl
  | [], _ :: _, h => by cases h
  | _ :: _, [], h => by cases h
  | x :: a, y :: b, h => by
    rw [List.map_cons, List.map_cons] at h
    obtain ⟨h1, h2⟩ := List.cons.inj h
    cases h1
    rw [strs_inj h2]
theorem insTag_inj {nm nm' : Str} {fs fs' : List Str} (h : insTag nm fs = insTag nm' fs') : nm = nm' ∧ fs = fs' := by
  unfold insTag at h
  have h1 := PV.tup.inj h
  obtain ⟨h2, h3⟩ := List.cons.inj h1
  exact ⟨PV.str.inj h2, strs_inj h3⟩
section
variable {bk : BagKind} {K : PySem.W.Frag} {M : Am} {S : Store} {H : Hp}
/-- an instance of the store -/
theorem obj_at {n : Nat} {v : V} {C : Addr} {nm : Str} {fs : List Str} {ys : List PV} (s : Sto K bk M S H) (T : TCls K C nm fs) (r : Rp K bk.root M H (.obj n) v) (e : S[n]? = some (insTag nm fs :: ys)) :
    ∃ a dx vs, v = .ref a ∧ M.m[n]? = some a ∧ M.k[n]? = some (.ins C dx fs) ∧ H a = some (.ins C dx (fs.zip vs)) ∧ H dx ≠ none ∧ ys.length ≤ fs.length ∧ Rps K bk.root M H ys vs := by
  obtain ⟨a, C', dx', fs', ⟨e1, e2⟩, rfl⟩ := rp_obj r
  obtain ⟨a2, c, o, f1, f2, f3, ce⟩ := s.st.at_ n _ e
  rw [e1] at f1
  obtain rfl := Option.some.inj f1
  rw [e2] at f2
  obtain rfl := Option.some.inj f2
  obtain ⟨nm2, ys2, vs, g0, gc, rfl, g2, g3, g4⟩ := ce
  obtain ⟨h1, h2⟩ := List.cons.inj g0
  obtain ⟨rfl, rfl⟩ := insTag_inj h1
  subst h2
  rw [T.at_] at gc
  have hC : C = C' := by
    have := Option.some.inj (Option.some.inj gc)
    cases this
    rfl
  subst hC
  exact ⟨a, dx', vs, rfl, e1, e2, f3, g2, g3, g4⟩
theorem to_obj {n : Nat} {a C dx : Addr} {fs : List Str} (h : M.m[n]? = some a) (h2 : M.k[n]? = some (.ins C dx fs)) : Rp K bk.root M H (.obj n) (.ref a) := by
  rw [Rp]
  exact ⟨a, C, dx, fs, h, h2, rfl⟩
end
theorem zip_lookup : ∀ {fs : List Str} {vs : List V} {i : Nat} {g : Str} {v : V}, fs.Nodup → fs[i]? = some g → vs[i]? = some v → (fs.zip vs).lookup g = some v
  | [], _, _, _, _, _, h, _ => by simp at h
  | _ :: _, [], _, _, _, _, _, h => by simp at h
  | f :: fs, w :: vs, 0, g, v, _, h1, h2 => by
    simp at h1 h2
    subst h1 h2
    simp [List.lookup]
  | f :: fs, w :: vs, i + 1, g, v, nd, h1, h2 => by
    simp at h1 h2
    obtain ⟨n1, n2⟩ := List.nodup_cons.mp nd
    have hne : (g == f) = false := by
      rw [beq_eq_false_iff_ne]
      rintro rfl
      exact n1 (List.mem_of_getElem? h1)
    show List.lookup g ((f, w) :: fs.zip vs) = _
    rw [List.lookup, hne]
    exact zip_lookup n2 h1 h2
theorem zip_lookup_none : ∀ {fs : List Str} {vs : List V} {g : Str}, g ∉ fs → (fs.zip vs).lookup g = none
  | [], _, _, _ => rfl
  | _ :: _, [], _, _ => rfl
  | f :: fs, w :: vs, g, h => by
    have hne : (g == f) = false := by
      rw [beq_eq_false_iff_ne]
      rintro rfl
      exact h List.mem_cons_self
    show List.lookup g ((f, w) :: fs.zip vs) = _
    rw [List.lookup, hne]
    exact zip_lookup_none fun hh => h (List.mem_cons_of_mem _ hh)
/-- place i is set, or made -/
def putA {α : Type} (i : Nat) (y : α) (ys : List α) : List α := ys.take i ++ y :: ys.drop (i + 1)
theorem putA_len {α : Type} {i : Nat} {y : α} {ys : List α} (h : i ≤ ys.length) : (putA i y ys).length = max ys.length (i + 1) := by
  unfold putA
  rw [List.length_append, List.length_take, List.length_cons, List.length_drop]
  omega
theorem putF_zip : ∀ {fs : List Str} {vs : List V} {i : Nat} {g : Str} {v : V}, fs.Nodup → fs[i]? = some g → i ≤ vs.length → putF g v (fs.zip vs) = fs.zip (putA i v vs)
  | [], _, _, _, _, _, h, _ => by simp at h
  | f :: fs, [], 0, g, v, _, h1, _ => by
    simp at h1
    subst h1
    cases fs <;> rfl
  | f :: fs, [], i + 1, g, v, _, _, h => by simp at h
  | f :: fs, w :: vs, 0, g, v, _, h1, _ => by
    simp at h1
    subst h1
    show (if f = f then (f, v) :: fs.zip vs else _) = _
    rw [if_pos rfl]
    rfl
  | f :: fs, w :: vs, i + 1, g, v, nd, h1, h => by
    simp at h1 h
    obtain ⟨n1, n2⟩ := List.nodup_cons.mp nd
    show (if f = g then (f, v) :: fs.zip vs else (f, w) :: putF g v (fs.zip vs)) = _
    rw [if_neg (by rintro rfl; exact n1 (List.mem_of_getElem? h1)), putF_zip n2 h1 h]
    rfl
section
variable {K : PySem.W.Frag} {r : Nat} {M : Am} {H : Hp}
theorem rps_put {x : PV} {v : V} (hx : Rp K r M H x v) : ∀ {i : Nat} {ys : List PV} {vs : List V}, Rps K r M H ys vs → Rps K r M H (putA i x ys) (putA i v vs)
  | 0, [], vs, h => by
    rw [Rps] at h
    subst h
    exact .cons hx .nil
  | 0, y :: ys, vs, h => by
    rw [Rps] at h
    obtain ⟨w, ws, rfl, h1, h2⟩ := h
    exact .cons hx h2
  | i + 1, [], vs, h => by
    rw [Rps] at h
    subst h
    exact .cons hx .nil
  | i + 1, y :: ys, vs, h => by
    rw [Rps] at h
    obtain ⟨w, ws, rfl, h1, h2⟩ := h
    exact .cons h1 (rps_put hx h2)
end
/-! ### o.f -/
def pFld (nm : Str) (fs : List Str) (i : Nat) (f : PTE) : PTE := fun E ρ S Q => f E ρ S fun x S1 => match x with
  | .obj n => ∃ ys, S1[n]? = some (insTag nm fs :: ys) ∧ onO ys[i]? fun y => Q y S1
  | _ => False
instance {nm : Str} {fs : List Str} {i : Nat} {f : PTE} [MoE f] : MoE (pFld nm fs i f) := ⟨fun h q => MoE.mo (f := f) (fun x _ q => by
  split at q
  · obtain ⟨ys, e, q⟩ := q
    exact ⟨ys, e, onO_mo (fun _ q => h _ _ q) q⟩
  · exact q.elim) q⟩
section
variable {bk : BagKind} {X : Cx} {C : Addr} {nm : Str} {fs : List Str} {i : Nat} {g : Str} {o e : Expr} {pos pos' : Pos} {f h : PTE}
theorem q_fld (T : TCls X.K C nm fs) (hi : fs[i]? = some g) (ho : QE bk X o f) (hb : attributeBase o g X.env (eval o X.env) = eval o X.env := by rfl) : QE bk X (.Attribute o g pos) (pFld nm fs i f) := by
  obtain ⟨ta, pa, wa⟩ := ho.ex
  refine ⟨_, pe_fld pa hb, fun E M ρ S σ H Q Q' R q p => ?_⟩
  refine wa E M ρ S σ H _ _ R q fun M1 S1 H1 x v t1 s1 r1 q1 => ?_
  cases x <;> first | exact q1.elim | skip
  rename_i n
  obtain ⟨ys, ey, q1⟩ := q1
  obtain ⟨y, ei, q1⟩ := onO_ex q1
  obtain ⟨a, dx, vs, rfl, e1, e2, e3, e4, e5, e6⟩ := obj_at s1 T r1 ey
  obtain ⟨w, ew, rw'⟩ := e6.get ei
  exact ⟨a, C, dx, _, w, rfl, e3, T.cl, T.no g (List.mem_of_getElem? hi), zip_lookup T.nd hi ew, p M1 S1 H1 y w t1 s1 rw' q1⟩
/-! ### o.f = e -/
def pSetF (nm : Str) (fs : List Str) (i : Nat) (f h : PTE) : PTS := fun E D ρ S => h E ρ S fun y S1 => f E ρ S1 fun x S2 => match x with
  | .obj n => ∃ ys, S2[n]? = some (insTag nm fs :: ys) ∧ i ≤ ys.length ∧ D.nx ρ (S2.set n (insTag nm fs :: putA i y ys))
  | _ => False
instance {f h : PTE} [MoE f] [MoE h] : MoS (pSetF nm fs i f h) := ⟨fun k q => MoE.mo (f := h) (fun y _ q => MoE.mo (f := f) (fun x _ q => by
  split at q
  · obtain ⟨ys, e, l, q⟩ := q
    exact ⟨ys, e, l, k.nx _ _ q⟩
  · exact q.elim) q) q⟩
theorem set_obj {M : Am} {S : Store} {H : Hp} {n : Nat} {a dx : Addr} {vs : List V} {ys : List PV} {y : PV} {w : V} (T : TCls X.K C nm fs) (hi : fs[i]? = some g) (s : Sto X.K bk M S H) (e1 : M.m[n]? = some a) (e2 : M.k[n]? = some (.ins C dx fs)) (e4 : H dx ≠ none) (e5 : ys.length ≤ fs.length) (e6 : Rps X.K bk.root M H ys vs)
    (hl : i ≤ ys.length) (ry : Rp X.K bk.root M H y w) : Step M H M (upd H a (.ins C dx (putF g w (fs.zip vs)))) ∧ Sto X.K bk M (S.set n (insTag nm fs :: putA i y ys)) (upd H a (.ins C dx (putF g w (fs.zip vs)))) := by
  have hlen : vs.length = ys.length := e6.length
  rw [putF_zip T.nd hi (by omega)]
  refine s.writeC e1 e2 fun H' t => ⟨nm, putA i y ys, putA i w vs, rfl, T.at_, rfl, t.live _ e4, ?_, rps_put (ry.step s t) (e6.step s t)⟩
  rw [putA_len hl]
  have := (List.getElem?_eq_some_iff.mp hi).1
  omega
theorem q_setF (T : TCls X.K C nm fs) (hi : fs[i]? = some g) (ho : QE bk X o f) (hv : QE bk X e h) (hs : swapsWith e (some (.Attribute o g pos')) pos.line X.env = pure false := by rfl) : QS bk X (.Assign [.Attribute o g pos'] e pos) (pSetF nm fs i f h) := by
  obtain ⟨ta, pa, wa⟩ := ho.ex
  obtain ⟨tv, pv', wv⟩ := hv.ex
  refine ⟨_, ps_fld pa pv' hs, fun E M ρ S σ H D D' R q p => ?_⟩
  refine wv E M ρ S σ H _ _ R q fun M1 S1 H1 y w t1 s1 r1 q1 => ?_
  refine wa E M1 ρ S1 σ H1 _ _ (R.step t1 s1) q1 fun M2 S2 H2 x v t2 s2 r2 q2 => ?_
  cases x <;> first | exact q2.elim | skip
  rename_i n
  obtain ⟨ys, ey, hl, q2⟩ := q2
  obtain ⟨a, dx, vs, rfl, e1, e2, e3, e4, e5, e6⟩ := obj_at s2 T r2 ey
  obtain ⟨t3, s3⟩ := set_obj T hi s2 e1 e2 e4 e5 e6 hl (r1.step s1 t2)
  refine ⟨a, C, dx, _, rfl, e3, T.cl, T.no g (List.mem_of_getElem? hi), ?_, ?_⟩
  · rw [List.length_zip]
    have := T.few
    omega
  · exact p.nx _ _ _ _ _ ((t1.trans t2).trans t3) ((R.step t1 s1).step t2 s2 |>.step t3 s3) q2
/-! ### o.f op= e -/
def pAugF (nm : Str) (fs : List Str) (i : Nat) (f : PTE) (op : PO2) (h : PTE) : PTS := fun E D ρ S => f E ρ S fun x S1 => match x with
  | .obj n => ∃ ys, S1[n]? = some (insTag nm fs :: ys) ∧ onO ys[i]? fun z => h E ρ S1 fun y S2 => op z y S2 fun r S3 => ∃ ys', S3[n]? = some (insTag nm fs :: ys') ∧ i ≤ ys'.length ∧ D.nx ρ (S3.set n (insTag nm fs :: putA i r ys'))
  | _ => False
instance {f h : PTE} {op : PO2} [MoE f] [MoE h] [Mo2 op] : MoS (pAugF nm fs i f op h) := ⟨fun k q => MoE.mo (f := f) (fun x _ q => by
  split at q
  · obtain ⟨ys, e, q⟩ := q
    exact ⟨ys, e, onO_mo (fun _ q => MoE.mo (f := h) (fun _ _ q => Mo2.mo (o := op) (fun _ _ ⟨ys', e', l, q⟩ => ⟨ys', e', l, k.nx _ _ q⟩) q) q) q⟩
  · exact q.elim) q⟩
theorem q_augF {op : Operator} {ti : R2} {po : PO2} (T : TCls X.K C nm fs) (hi : fs[i]? = some g) (ho : QE bk X o f) (hv : QE bk X e h) (hop : OpR X (inplaceOp op) ti) (hp : OpP bk X.K ti po) : QS bk X (.AugAssign (.Attribute o g pos') op e pos) (pAugF nm fs i f po h) := by
  obtain ⟨ta, pa, wa⟩ := ho.ex
  obtain ⟨tv, pv', wv⟩ := hv.ex
  refine ⟨_, ps_fldaug pa pv' (fun pins s σ H x y u v Q I rx ry q => hop pins s σ H x y u v Q I rx ry q), fun E M ρ S σ H D D' R q p => ?_⟩
  refine wa E M ρ S σ H _ _ R q fun M1 S1 H1 x v t1 s1 r1 q1 => ?_
  cases x <;> first | exact q1.elim | skip
  rename_i n
  obtain ⟨ys, ey, q1⟩ := q1
  obtain ⟨z, ez, q1⟩ := onO_ex q1
  obtain ⟨a, dx, vs, rfl, e1, e2, e3, e4, e5, e6⟩ := obj_at s1 T r1 ey
  obtain ⟨w, ew, rw'⟩ := e6.get ez
  refine ⟨a, C, dx, _, w, rfl, e3, T.cl, T.no g (List.mem_of_getElem? hi), zip_lookup T.nd hi ew, ?_⟩
  refine wv E M1 ρ S1 σ H1 _ _ (R.step t1 s1) q1 fun M2 S2 H2 y u t2 s2 r2 q2 => ?_
  refine hp M2 S2 H2 z y w u _ _ s2 (rw'.step s1 t2) r2 q2 fun M3 S3 H3 r vr t3 s3 r3 q3 => ?_
  obtain ⟨ys', ey', hl, q3⟩ := q3
  obtain ⟨a', dx', vs', ea, f1, f2, f3, f4, f5, f6⟩ := obj_at s3 T ((r1.step s1 t2).step s2 t3) ey'
  cases ea
  obtain ⟨t4, s4⟩ := set_obj T hi s3 f1 f2 f4 f5 f6 hl r3
  refine ⟨dx', _, f3, ?_, ?_⟩
  · rw [List.length_zip]
    have := T.few
    omega
  · exact p.nx _ _ _ _ _ ((t1.trans t2).trans (t3.trans t4)) (((R.step t1 s1).step t2 s2).step t3 s3 |>.step t4 s4) q3
end
/-! ### C(..) -/
def pMakeP (nm : Str) (fs : List Str) (c : PCl) (f : PTA) : PTE := fun E ρ S Q => f E ρ S fun xs S1 => c (.obj S1.length :: xs) (S1 ++ [[insTag nm fs]]) fun r S2 => r = .non ∧ Q (.obj S1.length) S2
instance {nm : Str} {fs : List Str} {c : PCl} {f : PTA} [MoC c] [MoA f] : MoE (pMakeP nm fs c f) := ⟨fun h q => MoA.mo (f := f) (fun _ _ q => MoC.mo (o := c) (fun _ _ q => ⟨q.1, h _ _ q.2⟩) q) q⟩
/-- o.m(..) -/
def pMethP (nm : Str) (fs : List Str) (c : PCl) (o : PTE) (f : PTA) : PTE := fun E ρ S Q => o E ρ S fun x S1 => match x with
  | .obj n => (∃ ys, S1[n]? = some (insTag nm fs :: ys)) ∧ f E ρ S1 fun xs S2 => c (.obj n :: xs) S2 Q
  | _ => False
instance {nm : Str} {fs : List Str} {c : PCl} {o : PTE} {f : PTA} [MoE o] [MoC c] [MoA f] : MoE (pMethP nm fs c o f) := ⟨fun h q => MoE.mo (f := o) (fun x _ q => by
  split at q
  · exact ⟨q.1, MoA.mo (f := f) (fun _ _ q => MoC.mo (o := c) h q) q.2⟩
  · exact q.elim) q⟩
section
variable {bk : BagKind} {X : Cx} {C fi : Addr} {nm : Str} {fs ps : List Str} {k : Nat} {fd : FuncData} {sp : Sp} {c : PCl} {x : Str} {e o : Expr} {es : List Expr} {p pos apos : Pos} {fa : PTA} {fo : PTE}
theorem made_ok {M1 : Am} {S1 : Store} {H1 : Hp} {xs : List PV} {vs : List V} {Q : PQ} {Q' : VK} {M : Am} {H : Hp} {E : XK} (T : TCls X.K C nm fs) (pr : PromE bk X.K sp c) (s1 : Sto X.K bk M1 S1 H1) (r1 : Rps X.K bk.root M1 H1 xs vs)
    (q1 : c (.obj S1.length :: xs) (S1 ++ [[insTag nm fs]]) fun r S2 => r = .non ∧ Q (.obj S1.length) S2) (t1 : Step M H M1 H1) (pp : Post bk X.K M H Q Q') :
    ∀ x dx, H1 x = none → H1 dx = none → dx ≠ x → sp (.ref x :: (vs ++ [])) (upd (upd H1 dx (.own x)) x (.ins C dx [])) (fun v H2 => v = .non ∧ Q' (.ref x) H2) E := by
  intro x dx hx hdx hne
  rw [List.append_nil]
  have t2 : Step M1 H1 M1 (upd H1 dx (.own x)) := Step.laid hdx
  have s2 := s1.laid (o := .own x) hdx
  have hx2 : (upd H1 dx (.own x)) x = none := by rw [upd_ne (Ne.symm hne)]; exact hx
  have cell : Cell X.K bk.root ⟨M1.m ++ [x], M1.bag, M1.k ++ [.ins C dx fs]⟩ (upd (upd H1 dx (.own x)) x (.ins C dx [])) (.ins C dx fs) [insTag nm fs] (.ins C dx []) :=
    ⟨nm, [], [], rfl, T.at_, by rw [List.zip_nil_right], by rw [upd_ne hne, upd_same]; simp, Nat.zero_le _, .nil⟩
  have s3 := s2.pushC hx2 cell
  have t3 : Step M1 (upd H1 dx (.own x)) ⟨M1.m ++ [x], M1.bag, M1.k ++ [.ins C dx fs]⟩ (upd (upd H1 dx (.own x)) x (.ins C dx [])) := Step.push hx2
  have ro : Rp X.K bk.root ⟨M1.m ++ [x], M1.bag, M1.k ++ [.ins C dx fs]⟩ (upd (upd H1 dx (.own x)) x (.ins C dx [])) (.obj S1.length) (.ref x) := by
    refine to_obj (C := C) (dx := dx) (fs := fs) ?_ ?_
    · show (M1.m ++ [x])[S1.length]? = some x
      rw [← s1.st.len]; simp
    · show (M1.k ++ [Kd.ins C dx fs])[S1.length]? = some _
      rw [← s1.st.lenk]; simp
  refine pr _ _ _ _ _ _ _ _ s3 (.cons ro (r1.step s1 (t2.trans t3))) q1 fun M' S' H' r v t' s' rr q => ?_
  obtain ⟨rfl, q⟩ := q
  refine ⟨rp_non rr, pp M' S' H' _ _ (t1.trans (t2.trans (t3.trans t'))) s' (ro.step s3 t') q⟩
theorem q_make (T : TCls X.K C nm fs) (MK : Mk X.K C fi) (G : FnOk X.prog X.w X.K X.mg X.base CX0 k fi fd ps sp) (pr : PromE bk X.K sp c) (hr : Room (k + 1) X.A) (hg : Gl X x) (hm : X.mg x = some (.ref C)) (hb : Binds X.K fd ps [])
    (ha : QA bk X (e :: es) fa) (hdb : (x == ("__debug__" : Str)) = false := by decide) (he : starEach (e :: es) X.env = (false, eval e X.env) :: starEach es X.env := by rfl) (hpl : (backTo pos (starEach es X.env)).any (·.1) = false := by rfl) :
    QE bk X (.Call (.Name x p) (e :: es) [] pos) (pMakeP nm fs c fa) := by
  obtain ⟨ta, pa, wa⟩ := ha.ex
  refine ⟨_, pe_make MK G hr hg hm hb .nil (pass0 (X := X)) pa hdb he hpl, fun E M ρ S σ H Q Q' R q pp => ?_⟩
  exact wa E M ρ S σ H _ _ R q fun M1 S1 H1 xs vs t1 s1 r1 q1 => made_ok T pr s1 r1 q1 t1 pp
theorem q_make0 (T : TCls X.K C nm fs) (MK : Mk X.K C fi) (G : FnOk X.prog X.w X.K X.mg X.base CX0 k fi fd ps sp) (pr : PromE bk X.K sp c) (hr : Room (k + 1) X.A) (hg : Gl X x) (hm : X.mg x = some (.ref C)) (hb : Binds X.K fd ps [])
    (hdb : (x == ("__debug__" : Str)) = false := by decide) : QE bk X (.Call (.Name x p) [] [] pos) (pMakeP nm fs c pANil) := by
  refine ⟨_, pe_make0 MK G hr hg hm hb .nil (pass0 (X := X)) hdb, fun E M ρ S σ H Q Q' R q pp => ?_⟩
  exact made_ok (vs := []) T pr R.sto .nil q (.refl M H) pp
theorem q_meth {m : Str} {pl : Sem Bool} (T : TCls X.K C nm fs) (hmn : m ∉ fs) (ME : Meth X.K C m fi) (G : FnOk X.prog X.w X.K X.mg X.base CX0 k fi fd ps sp) (pr : PromE bk X.K sp c) (hr : Room k X.A) (hb : Binds X.K fd ps [])
    (ho : QE bk X o fo) (ha : QA bk X (e :: es) fa) (hst : starEach (e :: es) X.env = (false, eval e X.env) :: starEach es X.env := by rfl) (hpl : (backTo pos (starEach es X.env)).any (·.1) = false := by rfl)
    (ht : eval (.Call (.Attribute o m apos) (e :: es) [] pos) X.env = (do
      let ov ← eval o X.env
      standAt apos.atName
      let (f, first) ← holding [ov] (getMethod ov m pl)
      callWith pos f first (backTo pos (starEach (e :: es) X.env)) (backToKw pos (keywordEach [] X.env))) := by rfl) :
    QE bk X (.Call (.Attribute o m apos) (e :: es) [] pos) (pMethP nm fs c fo fa) := by
  obtain ⟨to, po, wo⟩ := ho.ex
  obtain ⟨ta, pa, wa⟩ := ha.ex
  refine ⟨_, pe_meth po T.cl ME G hr hb .nil (pass0 (X := X)) pa hst hpl ht, fun E M ρ S σ H Q Q' R q pp => ?_⟩
  refine wo E M ρ S σ H _ _ R q fun M1 S1 H1 x v t1 s1 r1 q1 => ?_
  cases x <;> first | exact q1.elim | skip
  rename_i n
  obtain ⟨⟨ys, ey⟩, q1⟩ := q1
  obtain ⟨a, dx, vs, rfl, e1, e2, e3, e4, e5, e6⟩ := obj_at s1 T r1 ey
  refine ⟨a, dx, _, rfl, e3, zip_lookup_none hmn, ?_⟩
  refine wa E M1 ρ S1 σ H1 _ _ (R.step t1 s1) q1 fun M2 S2 H2 xs ws t2 s2 r2 q2 => ?_
  show sp (V.ref a :: (ws ++ [])) H2 Q' E0
  rw [List.append_nil]
  exact pr M2 S2 H2 _ _ Q Q' _ s2 (.cons (r1.step s1 t2) r2) q2 (pp.after (t1.trans t2))
theorem q_meth0 {m : Str} {pl : Sem Bool} (T : TCls X.K C nm fs) (hmn : m ∉ fs) (ME : Meth X.K C m fi) (G : FnOk X.prog X.w X.K X.mg X.base CX0 k fi fd ps sp) (pr : PromE bk X.K sp c) (hr : Room k X.A) (hb : Binds X.K fd ps [])
    (ho : QE bk X o fo)
    (ht : eval (.Call (.Attribute o m apos) [] [] pos) X.env = (do
      let ov ← eval o X.env
      standAt apos.atName
      let (f, first) ← holding [ov] (getMethod ov m pl)
      callWith pos f first (backTo pos (starEach [] X.env)) (backToKw pos (keywordEach [] X.env))) := by rfl) :
    QE bk X (.Call (.Attribute o m apos) [] [] pos) (pMethP nm fs c fo pANil) := by
  obtain ⟨to, po, wo⟩ := ho.ex
  refine ⟨_, pe_meth0 po T.cl ME G hr hb .nil (pass0 (X := X)) ht, fun E M ρ S σ H Q Q' R q pp => ?_⟩
  refine wo E M ρ S σ H _ _ R q fun M1 S1 H1 x v t1 s1 r1 q1 => ?_
  cases x <;> first | exact q1.elim | skip
  rename_i n
  obtain ⟨⟨ys, ey⟩, q1⟩ := q1
  obtain ⟨a, dx, vs, rfl, e1, e2, e3, e4, e5, e6⟩ := obj_at s1 T r1 ey
  refine ⟨a, dx, _, rfl, e3, zip_lookup_none hmn, ?_⟩
  exact pr M1 S1 H1 _ _ Q Q' _ s1 (.cons r1 .nil) q1 (pp.after t1)
end
end L2.P3
/-! P3kd: a comprehension whose parts change the store. -/
namespace L2.P3
open PySem PySem.Spec PyProof.Rows L2
theorem pLcL_run {α : Type} {chk : Store → Prop} {g : PTG} {tt : PTT} {te : PTE} [MoG g] [MoT tt] [MoE te] {E : XW} {ρ0 : PEnv} {n : Nat} {Q : PQ} (enc : α → PV) (I : Nat → List PV → Store → Prop) (all : List α)
    (hc : ∀ i acc S, I i acc S → chk S) (hl : all.length ≤ 16777216)
    (hs : ∀ i x acc S, all[i]? = some x → I i acc S → lcStep g tt te E ρ0 (enc x) S fun o S' => ∃ y, o = some y ∧ S'[n]? = some acc ∧ acc.length < 16777216 ∧ I (i + 1) (acc ++ [y]) (S'.set n (acc ++ [y])))
    (hd : ∀ acc S, I all.length acc S → Q (.lst n) S) : ∀ (post pre : List α) (acc : List PV) (S : Store), pre ++ post = all → I pre.length acc S → pLcL chk g tt te E ρ0 n Q (post.map enc) S
  | [], pre, acc, S, e, h => by
    rw [List.append_nil] at e
    subst e
    exact ⟨hc _ _ _ h, hd _ _ h⟩
  | x :: post, pre, acc, S, e, h => by
    refine ⟨hc _ _ _ h, ?_⟩
    have st := hs pre.length x acc S (by rw [← e]; simp) h
    refine MoG.mo (g := g) (fun ρ1 S1 q => MoT.mo (f := tt) (fun b S2 q => ?_) q) st
    cases b with
    | false =>
      obtain ⟨y, hy, _⟩ := (q : ∃ y, none = some y ∧ _)
      cases hy
    | true =>
      refine MoE.mo (f := te) (fun y S3 q => ?_) (q : te E ρ1 S2 _)
      obtain ⟨z, hz, h1, h2, h3⟩ := q
      cases hz
      refine onO_of h1 ⟨h2, ?_⟩
      exact pLcL_run enc I all hc hl hs hd post (pre ++ [x]) (acc ++ [y]) _ (by rw [List.append_assoc]; exact e) (by simpa using h3)
theorem pLcL_runR {chk : Store → Prop} {g : PTG} {tt : PTT} {te : PTE} [MoG g] [MoT tt] [MoE te] {E : XW} {ρ0 : PEnv} {n k : Nat} {Q : PQ} {S : Store} {a : Nat → PV} (I : Nat → List PV → Store → Prop)
    (hc : ∀ i acc S, I i acc S → chk S) (hl : k ≤ 1000000) (h0 : I 0 [] S)
    (hs : ∀ i acc S, i < k → I i acc S → lcStep g tt te E ρ0 (a i) S fun o S' => ∃ y, o = some y ∧ S'[n]? = some acc ∧ acc.length < 16777216 ∧ I (i + 1) (acc ++ [y]) (S'.set n (acc ++ [y])))
    (hd : ∀ acc S, I k acc S → Q (.lst n) S) : pLcL chk g tt te E ρ0 n Q ((List.range k).map a) S := by
  refine pLcL_run a I (List.range k) hc (by simp; omega) (fun i x acc S e h => ?_) (fun acc S h => hd acc S (by simpa using h)) (List.range k) [] [] S rfl h0
  have hi : i < k := by
    have := (List.getElem?_eq_some_iff.mp e).1
    simpa using this
  rw [List.getElem?_range hi] at e
  cases e
  exact hs i acc S hi h
theorem put_same {α : Type} {S : List α} {i : Nat} {x : α} (h : S[i]? = some x) : S.set i x = S := by
  obtain ⟨h1, h2⟩ := List.getElem?_eq_some_iff.mp h
  subst h2
  exact List.set_getElem_self h1
end L2.P3
namespace Lawk88
open PySem PySem.Spec PyProof.Rows L2 L2.P3
def topS (i : Nat) : Stmt := PySem.Challenge.pw_lastfigure_k88_drawn_cases.main.body.getD i (.Pass ⟨0, 0, 0, 0⟩)
abbrev s_frac : Stmt := topS 2
abbrev N_frac : List Str := ["above", "below", "by"]
abbrev P_frac : List Str := ["above", "below"]
theorem sc_frac : FnScope N_frac P_frac (defScope s_frac) := ⟨rfl, rfl, rfl, by decide +kernel, rfl, by decide +kernel, by decide +kernel⟩
abbrev s_times : Stmt := topS 3
abbrev N_times : List Str := ["one", "other"]
abbrev P_times : List Str := ["one", "other"]
theorem sc_times : FnScope N_times P_times (defScope s_times) := ⟨rfl, rfl, rfl, by decide +kernel, rfl, by decide +kernel, by decide +kernel⟩
abbrev s_Drawer_M_init : Stmt := inClass (topS 9) 0
abbrev N_Drawer_M_init : List Str := ["self", "numbers", "place", "number"]
abbrev P_Drawer_M_init : List Str := ["self", "numbers"]
theorem sc_Drawer_M_init : FnScope N_Drawer_M_init P_Drawer_M_init (defScope s_Drawer_M_init) := ⟨rfl, rfl, rfl, by decide +kernel, rfl, by decide +kernel, by decide +kernel⟩
abbrev s_Drawer_M_draw : Stmt := inClass (topS 9) 1
abbrev N_Drawer_M_draw : List Str := ["self", "more"]
abbrev P_Drawer_M_draw : List Str := ["self"]
theorem sc_Drawer_M_draw : FnScope N_Drawer_M_draw P_Drawer_M_draw (defScope s_Drawer_M_draw) := ⟨rfl, rfl, rfl, by decide +kernel, rfl, by decide +kernel, by decide +kernel⟩
abbrev s_draws : Stmt := topS 10
abbrev N_draws : List Str := ["numbers", "many", "drawer", "_"]
abbrev P_draws : List Str := ["numbers", "many"]
theorem sc_draws : FnScope N_draws P_draws (defScope s_draws) := ⟨rfl, rfl, rfl, by decide +kernel, rfl, by decide +kernel, by decide +kernel⟩
abbrev s_start_by : Stmt := topS 11
abbrev N_start_by : List Str := ["drawer", "d", "rows", "_", "worth", "row"]
abbrev P_start_by : List Str := ["drawer", "d"]
theorem sc_start_by : FnScope N_start_by P_start_by (defScope s_start_by) := ⟨rfl, rfl, rfl, by decide +kernel, rfl, by decide +kernel, by decide +kernel⟩
abbrev s_drawn_start : Stmt := topS 12
abbrev N_drawn_start : List Str := ["numbers", "d"]
abbrev P_drawn_start : List Str := ["numbers", "d"]
theorem sc_drawn_start : FnScope N_drawn_start P_drawn_start (defScope s_drawn_start) := ⟨rfl, rfl, rfl, by decide +kernel, rfl, by decide +kernel, by decide +kernel⟩
abbrev s_drawn_hand : Stmt := topS 13
abbrev N_drawn_hand : List Str := ["start", "numbers", "drawer", "unit"]
abbrev P_drawn_hand : List Str := ["start", "numbers"]
theorem sc_drawn_hand : FnScope N_drawn_hand P_drawn_hand (defScope s_drawn_hand) := ⟨rfl, rfl, rfl, by decide +kernel, rfl, by decide +kernel, by decide +kernel⟩
abbrev s_drawn_page : Stmt := topS 14
abbrev N_drawn_page : List Str := ["numbers", "d", "drawer", "start", "first"]
abbrev P_drawn_page : List Str := ["numbers", "d"]
theorem sc_drawn_page : FnScope N_drawn_page P_drawn_page (defScope s_drawn_page) := ⟨rfl, rfl, rfl, by decide +kernel, rfl, by decide +kernel, by decide +kernel⟩
abbrev s__law_bag : Stmt := topS 16
abbrev N__law_bag : List Str := ["script", "cells", "cell", "great"]
abbrev P__law_bag : List Str := ["script"]
theorem sc__law_bag : FnScope N__law_bag P__law_bag (defScope s__law_bag) := ⟨rfl, rfl, rfl, by decide +kernel, rfl, by decide +kernel, by decide +kernel⟩
abbrev s__law_draw : Stmt := topS 17
abbrev N__law_draw : List Str := ["bag", "many", "digit", "cell", "mixed"]
abbrev P__law_draw : List Str := ["bag", "many"]
theorem sc__law_draw : FnScope N__law_draw P__law_draw (defScope s__law_draw) := ⟨rfl, rfl, rfl, by decide +kernel, rfl, by decide +kernel, by decide +kernel⟩
abbrev s__law_pick : Stmt := topS 18
abbrev N__law_pick : List Str := ["bag", "some"]
abbrev P__law_pick : List Str := ["bag", "some"]
theorem sc__law_pick : FnScope N__law_pick P__law_pick (defScope s__law_pick) := ⟨rfl, rfl, rfl, by decide +kernel, rfl, by decide +kernel, by decide +kernel⟩
abbrev s__law_same : Stmt := topS 19
abbrev N__law_same : List Str := ["found", "due", "k"]
abbrev P__law_same : List Str := ["found", "due"]
theorem sc__law_same : FnScope N__law_same P__law_same (defScope s__law_same) := ⟨rfl, rfl, rfl, by decide +kernel, rfl, by decide +kernel, by decide +kernel⟩
abbrev s__law_gcd : Stmt := topS 20
abbrev N__law_gcd : List Str := ["a", "b"]
abbrev P__law_gcd : List Str := ["a", "b"]
theorem sc__law_gcd : FnScope N__law_gcd P__law_gcd (defScope s__law_gcd) := ⟨rfl, rfl, rfl, by decide +kernel, rfl, by decide +kernel, by decide +kernel⟩
abbrev s__law_fr : Stmt := topS 21
abbrev N__law_fr : List Str := ["a", "b", "by"]
abbrev P__law_fr : List Str := ["a", "b"]
theorem sc__law_fr : FnScope N__law_fr P__law_fr (defScope s__law_fr) := ⟨rfl, rfl, rfl, by decide +kernel, rfl, by decide +kernel, by decide +kernel⟩
abbrev s__law_times : Stmt := topS 22
abbrev N__law_times : List Str := ["a", "b"]
abbrev P__law_times : List Str := ["a", "b"]
theorem sc__law_times : FnScope N__law_times P__law_times (defScope s__law_times) := ⟨rfl, rfl, rfl, by decide +kernel, rfl, by decide +kernel, by decide +kernel⟩
abbrev s__law_less : Stmt := topS 23
abbrev N__law_less : List Str := ["a", "b"]
abbrev P__law_less : List Str := ["a", "b"]
theorem sc__law_less : FnScope N__law_less P__law_less (defScope s__law_less) := ⟨rfl, rfl, rfl, by decide +kernel, rfl, by decide +kernel, by decide +kernel⟩
abbrev s__law_ten : Stmt := topS 24
abbrev N__law_ten : List Str := ["k", "found", "j"]
abbrev P__law_ten : List Str := ["k"]
theorem sc__law_ten : FnScope N__law_ten P__law_ten (defScope s__law_ten) := ⟨rfl, rfl, rfl, by decide +kernel, rfl, by decide +kernel, by decide +kernel⟩
abbrev s__law_is_whole : Stmt := topS 25
abbrev N__law_is_whole : List Str := ["value"]
abbrev P__law_is_whole : List Str := ["value"]
theorem sc__law_is_whole : FnScope N__law_is_whole P__law_is_whole (defScope s__law_is_whole) := ⟨rfl, rfl, rfl, by decide +kernel, rfl, by decide +kernel, by decide +kernel⟩
abbrev s__law_is_fraction : Stmt := topS 26
abbrev N__law_is_fraction : List Str := ["value"]
abbrev P__law_is_fraction : List Str := ["value"]
theorem sc__law_is_fraction : FnScope N__law_is_fraction P__law_is_fraction (defScope s__law_is_fraction) := ⟨rfl, rfl, rfl, by decide +kernel, rfl, by decide +kernel, by decide +kernel⟩
abbrev s__law_is_hand : Stmt := topS 27
abbrev N__law_is_hand : List Str := ["start", "value", "j"]
abbrev P__law_is_hand : List Str := ["start", "value"]
theorem sc__law_is_hand : FnScope N__law_is_hand P__law_is_hand (defScope s__law_is_hand) := ⟨rfl, rfl, rfl, by decide +kernel, rfl, by decide +kernel, by decide +kernel⟩
abbrev s__law_half : Stmt := topS 28
abbrev N__law_half : List Str := ["bag", "most", "below", "b"]
abbrev P__law_half : List Str := ["bag", "most", "below"]
theorem sc__law_half : FnScope N__law_half P__law_half (defScope s__law_half) := ⟨rfl, rfl, rfl, by decide +kernel, rfl, by decide +kernel, by decide +kernel⟩
abbrev s__law_start : Stmt := topS 29
abbrev N__law_start : List Str := ["bag", "d", "most", "below", "values", "j", "units"]
abbrev P__law_start : List Str := ["bag", "d", "most", "below"]
theorem sc__law_start : FnScope N__law_start P__law_start (defScope s__law_start) := ⟨rfl, rfl, rfl, by decide +kernel, rfl, by decide +kernel, by decide +kernel⟩
abbrev s__law_own_draws : Stmt := topS 30
abbrev N__law_own_draws : List Str := ["numbers", "many", "x", "found", "i", "k"]
abbrev P__law_own_draws : List Str := ["numbers", "many"]
theorem sc__law_own_draws : FnScope N__law_own_draws P__law_own_draws (defScope s__law_own_draws) := ⟨rfl, rfl, rfl, by decide +kernel, rfl, by decide +kernel, by decide +kernel⟩
abbrev s__law_own_start : Stmt := topS 31
abbrev N__law_own_start : List Str := ["numbers", "d", "row", "values", "units", "j"]
abbrev P__law_own_start : List Str := ["numbers", "d"]
theorem sc__law_own_start : FnScope N__law_own_start P__law_own_start (defScope s__law_own_start) := ⟨rfl, rfl, rfl, by decide +kernel, rfl, by decide +kernel, by decide +kernel⟩
abbrev s__law_own_hand : Stmt := topS 32
abbrev N__law_own_hand : List Str := ["start", "numbers", "row", "j"]
abbrev P__law_own_hand : List Str := ["start", "numbers"]
theorem sc__law_own_hand : FnScope N__law_own_hand P__law_own_hand (defScope s__law_own_hand) := ⟨rfl, rfl, rfl, by decide +kernel, rfl, by decide +kernel, by decide +kernel⟩
abbrev s__law_own_page : Stmt := topS 33
abbrev N__law_own_page : List Str := ["numbers", "d", "row"]
abbrev P__law_own_page : List Str := ["numbers", "d"]
theorem sc__law_own_page : FnScope N__law_own_page P__law_own_page (defScope s__law_own_page) := ⟨rfl, rfl, rfl, by decide +kernel, rfl, by decide +kernel, by decide +kernel⟩
abbrev s__law_numbers : Stmt := topS 34
abbrev N__law_numbers : List Str := ["bag", "k"]
abbrev P__law_numbers : List Str := ["bag"]
theorem sc__law_numbers : FnScope N__law_numbers P__law_numbers (defScope s__law_numbers) := ⟨rfl, rfl, rfl, by decide +kernel, rfl, by decide +kernel, by decide +kernel⟩
abbrev s_law : Stmt := topS 35
abbrev N_law : List Str := ["script", "bag", "turn", "numbers", "other", "d", "many", "due", "start"]
abbrev P_law : List Str := ["script"]
theorem sc_law : FnScope N_law P_law (defScope s_law) := ⟨rfl, rfl, rfl, by decide +kernel, rfl, by decide +kernel, by decide +kernel⟩
abbrev fl_Drawer : List Str := ["numbers", "place", "state"]
def B_frac : PTS :=
    (pSeq (pSet 2 (pCl oGcd (pACons (pVar 0) (pACons (pVar 1) pANil))))
    (pSeq (pIfS (pTB (pOp oLt (pVar 1) (pC (.int 0)))) (pSet 2 (pUn oNeg (pVar 2))) pNext)
    (pRet (pTup (pACons (pOp oFdiv (pVar 0) (pVar 2)) (pACons (pOp oFdiv (pVar 1) (pVar 2)) pANil))))))
instance mo_frac : MoS (B_frac) := by unfold B_frac; infer_instance
def F_frac : PF0 := pDef0 2 3 (B_frac)
instance moF_frac : Mo0 (F_frac) := by unfold F_frac; infer_instance

def B_times : PTS :=
    (pRet (pCl (c0 F_frac) (pACons (pOp oMul (pOp oIx (pVar 0) (pC (.int 0))) (pOp oIx (pVar 1) (pC (.int 0)))) (pACons (pOp oMul (pOp oIx (pVar 0) (pC (.int 1))) (pOp oIx (pVar 1) (pC (.int 1)))) pANil))))
instance mo_times : MoS (B_times) := by unfold B_times; infer_instance
def F_times : PF0 := pDef0 2 2 (B_times)
instance moF_times : Mo0 (F_times) := by unfold F_times; infer_instance

def B_Drawer_M_init : PTS :=
    (pSeq (pSetF "Drawer" fl_Drawer 0 (pVar 0) (pVar 1))
    (pSeq (pSetF "Drawer" fl_Drawer 1 (pVar 0) (pC (.int 0)))
    (pSetF "Drawer" fl_Drawer 2 (pVar 0) (pSum (iEnum (pVar 1)) (gT 2 (gsCons (gN 2) (gsCons (gN 3) gsNil))) pYes (pOp oMul (pVar 3) (pOp oAdd (pVar 2) (pC (.int 1)))) [2, 3]))))
instance mo_Drawer_M_init : MoS (B_Drawer_M_init) := by unfold B_Drawer_M_init; infer_instance
@[irreducible] def F_Drawer_M_init : PFS := pDefS 2 4 (B_Drawer_M_init)
instance moF_Drawer_M_init : MoF (F_Drawer_M_init) := by unfold F_Drawer_M_init; infer_instance

def B_Drawer_M_draw : PTS :=
    (pSeq (pSet 1 (pOp oIx (pFld "Drawer" fl_Drawer 0 (pVar 0)) (pOp oMod (pFld "Drawer" fl_Drawer 1 (pVar 0)) (pCl oLen (pACons (pFld "Drawer" fl_Drawer 0 (pVar 0)) pANil)))))
    (pSeq (pSetF "Drawer" fl_Drawer 2 (pVar 0) (pOp oMod (pOp oAdd (pOp oAdd (pOp oMul (pFld "Drawer" fl_Drawer 2 (pVar 0)) (pC (.int 1103515245))) (pC (.int 12345))) (pVar 1)) (pC (.int 2147483648))))
    (pSeq (pAugF "Drawer" fl_Drawer 1 (pVar 0) oAddI (pC (.int 1)))
    (pRet (pOp oFdiv (pFld "Drawer" fl_Drawer 2 (pVar 0)) (pC (.int 65536)))))))
instance mo_Drawer_M_draw : MoS (B_Drawer_M_draw) := by unfold B_Drawer_M_draw; infer_instance
@[irreducible] def F_Drawer_M_draw : PFS := pDefS 1 2 (B_Drawer_M_draw)
instance moF_Drawer_M_draw : MoF (F_Drawer_M_draw) := by unfold F_Drawer_M_draw; infer_instance

def B_draws : PTS :=
    (pSeq (pSet 2 (pMakeP "Drawer" fl_Drawer F_Drawer_M_init (pACons (pVar 0) pANil)))
    (pRet (pCl oTuple (pACons (pLc (iRange1 (pVar 1)) (gN 3) pYes (pMethP "Drawer" fl_Drawer F_Drawer_M_draw (pVar 2) pANil) [3]) pANil))))
instance mo_draws : MoS (B_draws) := by unfold B_draws; infer_instance
def F_draws : PF0 := pDef0 2 4 (B_draws)
instance moF_draws : Mo0 (F_draws) := by unfold F_draws; infer_instance

def B_start_by : PTS :=
    (pSeq (pSet 2 (pLst pANil))
    (pSeq (pFor (iRange1 (pOp oAdd (pVar 1) (pC (.int 1)))) (gN 3)
    (pSeq (pSet 4 (pCl (c0 F_frac) (pACons (pOp oSub (pOp oMod (pMethP "Drawer" fl_Drawer F_Drawer_M_draw (pVar 0) pANil) (pC (.int 2001))) (pC (.int 1000))) (pACons (pC (.int 100)) pANil))))
    (pDrop (pAppend (pVar 2) (pTup (pACons (pVar 4) (pACons (pCl (c0 F_frac) (pACons (pOp oMod (pMethP "Drawer" fl_Drawer F_Drawer_M_draw (pVar 0) pANil) (pC (.int 50))) (pACons (pC (.int 100)) pANil))) pANil)))))))
    (pRet (pTup (pACons (pScope (pCl oTuple (pACons (pLc (iAny (pVar 2)) (gN 5) pYes (pOp oIx (pVar 5) (pC (.int 0))) [5]) pANil))) (pACons (pScope (pCl oTuple (pACons (pLc (iAny (pVar 2)) (gN 5) pYes (pOp oIx (pVar 5) (pC (.int 1))) [5]) pANil))) pANil))))))
instance mo_start_by : MoS (B_start_by) := by unfold B_start_by; infer_instance
@[irreducible] def F_start_by : PFS := pDefS 2 6 (B_start_by)
instance moF_start_by : MoF (F_start_by) := by unfold F_start_by; infer_instance

def B_drawn_start : PTS :=
    (pRet (pCl F_start_by (pACons (pMakeP "Drawer" fl_Drawer F_Drawer_M_init (pACons (pVar 0) pANil)) (pACons (pVar 1) pANil))))
instance mo_drawn_start : MoS (B_drawn_start) := by unfold B_drawn_start; infer_instance
def F_drawn_start : PF0 := pDef0 2 2 (B_drawn_start)
instance moF_drawn_start : Mo0 (F_drawn_start) := by unfold F_drawn_start; infer_instance

def B_drawn_hand : PTS :=
    (pSeq (pSet 2 (pMakeP "Drawer" fl_Drawer F_Drawer_M_init (pACons (pVar 1) pANil)))
    (pRet (pCl oTuple (pACons (pLc (iAny (pOp oIx (pVar 0) (pC (.int 1)))) (gN 3) pYes (pCl (c0 F_times) (pACons (pVar 3) (pACons (pCl (c0 F_frac) (pACons (pOp oSub (pOp oMod (pMethP "Drawer" fl_Drawer F_Drawer_M_draw (pVar 2) pANil) (pC (.int 201))) (pC (.int 100))) (pACons (pC (.int 100)) pANil))) pANil))) [3]) pANil))))
instance mo_drawn_hand : MoS (B_drawn_hand) := by unfold B_drawn_hand; infer_instance
def F_drawn_hand : PF0 := pDef0 2 4 (B_drawn_hand)
instance moF_drawn_hand : Mo0 (F_drawn_hand) := by unfold F_drawn_hand; infer_instance

def B_drawn_page : PTS :=
    (pSeq (pSet 2 (pMakeP "Drawer" fl_Drawer F_Drawer_M_init (pACons (pVar 0) pANil)))
    (pSeq (pSet 3 (pCl F_start_by (pACons (pVar 2) (pACons (pVar 1) pANil))))
    (pSeq (pSet 4 (pOp oSub (pOp oMod (pMethP "Drawer" fl_Drawer F_Drawer_M_draw (pVar 2) pANil) (pC (.int 21))) (pC (.int 10))))
    (pRet (pTup (pACons (pVar 3) (pACons (pVar 4) (pACons (pOp oAdd (pC (.int 5)) (pOp oMod (pMethP "Drawer" fl_Drawer F_Drawer_M_draw (pVar 2) pANil) (pC (.int 10)))) (pACons (pC (.int 0)) (pACons (pC (.str "up")) pANil))))))))))
instance mo_drawn_page : MoS (B_drawn_page) := by unfold B_drawn_page; infer_instance
def F_drawn_page : PF0 := pDef0 2 5 (B_drawn_page)
instance moF_drawn_page : Mo0 (F_drawn_page) := by unfold F_drawn_page; infer_instance

def B__law_bag : PTS :=
    (pSeq (pSet 1 (pOp oAdd (pLc (iAny (pVar 0)) (gN 2) pYes (pCl oAbs (pACons (pCl oInt (pACons (pVar 2) pANil)) pANil)) [2]) (pLst (pACons (pC (.int 7)) pANil))))
    (pSeq (pSet 3 (pLst pANil))
    (pSeq (pIfS (pTB (pOp oEq (pOp oMod (pCl oInt (pACons (pOp oIx (pVar 1) (pC (.int 0))) pANil)) (pC (.int 2))) (pC (.int 0)))) (pSeq (pSet 3 (pLc (iAny (pVar 1)) (gN 2) (pTB (pOp oGe (pVar 2) (pOp oPow (pC (.int 10)) (pC (.int 18))))) (pOp oFdiv (pVar 2) (pC (.int 2))) [2]))
    (pDrop (pReverse (pVar 3)))) pNext)
    (pRet (pLst (pACons (pC (.int 0)) (pACons (pC (.int 0)) (pACons (pVar 3) (pACons (pLc (iAny (pVar 1)) (gN 2) pYes (pOp oMod (pCl oInt (pACons (pVar 2) pANil)) (pC (.int 2147483647))) [2]) pANil)))))))))
instance mo__law_bag : MoS (B__law_bag) := by unfold B__law_bag; infer_instance
def X__law_bag : PFS := pDefS 1 4 (B__law_bag)
instance moF__law_bag : MoF (X__law_bag) := by unfold X__law_bag; infer_instance

def B__law_draw : PTS :=
    (pSeq (pAsg (pOp oAdd (pOp oIx (pVar 0) (pC (.int 1))) (pC (.int 1))) (gIx (pVar 0) (pC (.int 1))))
    (pSeq (pIfS (pAnd (pTB (pOp oEq (pOp oIx (pVar 0) (pC (.int 0))) (pC (.int 0)))) (pTB (pOp oGt (pCl oLen (pACons (pOp oIx (pVar 0) (pC (.int 2))) pANil)) (pC (.int 0))))) (pAsg (pPop (pOp oIx (pVar 0) (pC (.int 2)))) (gIx (pVar 0) (pC (.int 0)))) pNext)
    (pSeq (pIfS (pTB (pOp oGt (pOp oIx (pVar 0) (pC (.int 0))) (pC (.int 0)))) (pSeq (pSet 2 (pOp oMod (pCl oInt (pACons (pOp oIx (pVar 0) (pC (.int 0))) pANil)) (pVar 1)))
    (pSeq (pAsg (pOp oFdiv (pOp oIx (pVar 0) (pC (.int 0))) (pVar 1)) (gIx (pVar 0) (pC (.int 0))))
    (pRet (pVar 2)))) pNext)
    (pSeq (pSet 3 (pOp oIx (pOp oIx (pVar 0) (pC (.int 3))) (pOp oMod (pCl oInt (pACons (pOp oIx (pVar 0) (pC (.int 1))) pANil)) (pCl oLen (pACons (pOp oIx (pVar 0) (pC (.int 3))) pANil)))))
    (pSeq (pSet 4 (pOp oMod (pCl oInt (pACons (pOp oAdd (pOp oAdd (pOp oMul (pVar 3) (pC (.int 48271))) (pOp oMul (pOp oIx (pVar 0) (pC (.int 1))) (pC (.int 69621)))) (pC (.int 1))) pANil)) (pC (.int 2147483647))))
    (pRet (pOp oMod (pOp oFdiv (pOp oMod (pCl oInt (pACons (pOp oAdd (pOp oAdd (pOp oMul (pVar 4) (pVar 4)) (pOp oMul (pVar 4) (pC (.int 16807)))) (pOp oMul (pOp oIx (pVar 0) (pC (.int 1))) (pC (.int 40014)))) pANil)) (pC (.int 2147483629))) (pC (.int 32))) (pVar 1))))))))
instance mo__law_draw : MoS (B__law_draw) := by unfold B__law_draw; infer_instance
def X__law_draw : PFS := pDefS 2 5 (B__law_draw)
instance moF__law_draw : MoF (X__law_draw) := by unfold X__law_draw; infer_instance

def B__law_pick : PTS :=
    (pRet (pOp oIx (pVar 1) (pCl (c0 F_draw) (pACons (pVar 0) (pACons (pCl oLen (pACons (pVar 1) pANil)) pANil)))))
instance mo__law_pick : MoS (B__law_pick) := by unfold B__law_pick; infer_instance
@[irreducible] def F__law_pick : PFS := pDefC 2 2 (B__law_pick)
instance moF__law_pick : MoF (F__law_pick) := by unfold F__law_pick; infer_instance

def B__law_same (Fr : PF0) : PTS :=
    (pSeq (pIfS (pTB (pOp oIsN (pVar 1) (pC .non))) (pRet (pOp oIsN (pVar 0) (pC .non))) pNext)
    (pSeq (pIfS (pOr (pTruth (pIsi .bool (pVar 1))) (pTruth (pIsi .bool (pVar 0)))) (pRet (pAndV (pIsi .bool (pVar 1)) (pAndV (pIsi .bool (pVar 0)) (pOp oEq (pVar 0) (pVar 1))))) pNext)
    (pSeq (pIfS (pTruth (pIsi .int (pVar 1))) (pRet (pAndV (pIsi .int (pVar 0)) (pOp oEq (pVar 0) (pVar 1)))) pNext)
    (pSeq (pIfS (pTruth (pIsi .str (pVar 1))) (pRet (pAndV (pIsi .str (pVar 0)) (pOp oEq (pVar 0) (pVar 1)))) pNext)
    (pSeq (pIfS (pOr (pNot (pTruth (pIsi .tuple (pVar 1)))) (pOr (pNot (pTruth (pIsi .tuple (pVar 0)))) (pTB (pOp oNe (pCl oLen (pACons (pVar 0) pANil)) (pCl oLen (pACons (pVar 1) pANil)))))) (pRet (pC (.bl false))) pNext)
    (pSeq (pFor (iRange1 (pCl oLen (pACons (pVar 1) pANil))) (gN 2)
    (pIfS (pNot (pTruth (pCl (c0 Fr) (pACons (pOp oIx (pVar 0) (pVar 2)) (pACons (pOp oIx (pVar 1) (pVar 2)) pANil))))) (pRet (pC (.bl false))) pNext))
    (pRet (pC (.bl true)))))))))
instance mo__law_same (Fr : PF0) [Mo0 Fr] : MoS (B__law_same Fr) := by unfold B__law_same; infer_instance
def X__law_same (Fr : PF0) : PF0 := pDef0 2 3 (B__law_same Fr)
instance moF__law_same (Fr : PF0) [Mo0 Fr] : Mo0 (X__law_same Fr) := by unfold X__law_same; infer_instance
abbrev F__law_same : PF0 := F_same true 6

def B__law_gcd : PTS :=
    (pSeq (pPar 0 1 (pCl oAbs (pACons (pVar 0) pANil)) (pCl oAbs (pACons (pVar 1) pANil)))
    (pSeq (pWhile (pTB (pOp oNe (pVar 1) (pC (.int 0))))
    (pPar 0 1 (pVar 1) (pOp oMod (pCl oInt (pACons (pVar 0) pANil)) (pVar 1))))
    (pRet (pVar 0))))
instance mo__law_gcd : MoS (B__law_gcd) := by unfold B__law_gcd; infer_instance
def F__law_gcd : PF0 := pDef0 2 2 (B__law_gcd)
instance moF__law_gcd : Mo0 (F__law_gcd) := by unfold F__law_gcd; infer_instance

def B__law_fr : PTS :=
    (pSeq (pSet 2 (pCl (c0 F__law_gcd) (pACons (pVar 0) (pACons (pVar 1) pANil))))
    (pRet (pTup (pACons (pOp oFdiv (pVar 0) (pVar 2)) (pACons (pOp oFdiv (pVar 1) (pVar 2)) pANil)))))
instance mo__law_fr : MoS (B__law_fr) := by unfold B__law_fr; infer_instance
def F__law_fr : PF0 := pDef0 2 3 (B__law_fr)
instance moF__law_fr : Mo0 (F__law_fr) := by unfold F__law_fr; infer_instance

def B__law_times : PTS :=
    (pRet (pCl (c0 F__law_fr) (pACons (pOp oMul (pOp oIx (pVar 0) (pC (.int 0))) (pOp oIx (pVar 1) (pC (.int 0)))) (pACons (pOp oMul (pOp oIx (pVar 0) (pC (.int 1))) (pOp oIx (pVar 1) (pC (.int 1)))) pANil))))
instance mo__law_times : MoS (B__law_times) := by unfold B__law_times; infer_instance
def F__law_times : PF0 := pDef0 2 2 (B__law_times)
instance moF__law_times : Mo0 (F__law_times) := by unfold F__law_times; infer_instance

def B__law_less : PTS :=
    (pRet (pOp oLt (pOp oMul (pOp oIx (pVar 0) (pC (.int 0))) (pOp oIx (pVar 1) (pC (.int 1)))) (pOp oMul (pOp oIx (pVar 1) (pC (.int 0))) (pOp oIx (pVar 0) (pC (.int 1))))))
instance mo__law_less : MoS (B__law_less) := by unfold B__law_less; infer_instance
def F__law_less : PF0 := pDef0 2 2 (B__law_less)
instance moF__law_less : Mo0 (F__law_less) := by unfold F__law_less; infer_instance

def B__law_ten : PTS :=
    (pSeq (pSet 1 (pC (.int 1)))
    (pSeq (pFor (iRange1 (pVar 0)) (gN 2)
    (pSet 1 (pOp oMul (pVar 1) (pC (.int 10)))))
    (pRet (pVar 1))))
instance mo__law_ten : MoS (B__law_ten) := by unfold B__law_ten; infer_instance
def F__law_ten : PF0 := pDef0 1 3 (B__law_ten)
instance moF__law_ten : Mo0 (F__law_ten) := by unfold F__law_ten; infer_instance

def B__law_is_whole : PTS :=
    (pRet (pAndV (pIsi .int (pVar 0)) (pNotV (pIsi .bool (pVar 0)))))
instance mo__law_is_whole : MoS (B__law_is_whole) := by unfold B__law_is_whole; infer_instance
def F__law_is_whole : PF0 := pDef0 1 1 (B__law_is_whole)
instance moF__law_is_whole : Mo0 (F__law_is_whole) := by unfold F__law_is_whole; infer_instance

def B__law_is_fraction : PTS :=
    (pSeq (pIfS (pOr (pNot (pTruth (pIsi .tuple (pVar 0)))) (pOr (pTB (pOp oNe (pCl oLen (pACons (pVar 0) pANil)) (pC (.int 2)))) (pOr (pNot (pTruth (pCl (c0 F__law_is_whole) (pACons (pOp oIx (pVar 0) (pC (.int 0))) pANil)))) (pOr (pNot (pTruth (pCl (c0 F__law_is_whole) (pACons (pOp oIx (pVar 0) (pC (.int 1))) pANil)))) (pTB (pOp oLt (pOp oIx (pVar 0) (pC (.int 1))) (pC (.int 1)))))))) (pRet (pC (.bl false))) pNext)
    (pRet (pOp oEq (pCl (c0 F__law_gcd) (pACons (pCl oAbs (pACons (pOp oIx (pVar 0) (pC (.int 0))) pANil)) (pACons (pOp oIx (pVar 0) (pC (.int 1))) pANil))) (pC (.int 1)))))
instance mo__law_is_fraction : MoS (B__law_is_fraction) := by unfold B__law_is_fraction; infer_instance
def F__law_is_fraction : PF0 := pDef0 1 1 (B__law_is_fraction)
instance moF__law_is_fraction : Mo0 (F__law_is_fraction) := by unfold F__law_is_fraction; infer_instance

def B__law_is_hand : PTS :=
    (pSeq (pIfS (pOr (pNot (pTruth (pIsi .tuple (pVar 1)))) (pTB (pOp oNe (pCl oLen (pACons (pVar 1) pANil)) (pCl oLen (pACons (pOp oIx (pVar 0) (pC (.int 0))) pANil))))) (pRet (pC (.bl false))) pNext)
    (pSeq (pFor (iRange1 (pCl oLen (pACons (pVar 1) pANil))) (gN 2)
    (pIfS (pOr (pNot (pTruth (pCl (c0 F__law_is_fraction) (pACons (pOp oIx (pVar 1) (pVar 2)) pANil)))) (pTruth (pCl (c0 F__law_less) (pACons (pOp oIx (pOp oIx (pVar 0) (pC (.int 1))) (pVar 2)) (pACons (pTup (pACons (pCl oAbs (pACons (pOp oIx (pOp oIx (pVar 1) (pVar 2)) (pC (.int 0))) pANil)) (pACons (pOp oIx (pOp oIx (pVar 1) (pVar 2)) (pC (.int 1))) pANil))) pANil))))) (pRet (pC (.bl false))) pNext))
    (pRet (pC (.bl true)))))
instance mo__law_is_hand : MoS (B__law_is_hand) := by unfold B__law_is_hand; infer_instance
def F__law_is_hand : PF0 := pDef0 2 3 (B__law_is_hand)
instance moF__law_is_hand : Mo0 (F__law_is_hand) := by unfold F__law_is_hand; infer_instance

def B__law_half : PTS :=
    (pSeq (pSet 3 (pOp oAdd (pC (.int 1)) (pCl (c0 F_draw) (pACons (pVar 0) (pACons (pVar 2) pANil)))))
    (pRet (pCl (c0 F__law_fr) (pACons (pOp oSub (pCl (c0 F_draw) (pACons (pVar 0) (pACons (pOp oAdd (pOp oMul (pOp oMul (pC (.int 2)) (pVar 1)) (pVar 3)) (pC (.int 1))) pANil))) (pOp oMul (pVar 1) (pVar 3))) (pACons (pVar 3) pANil)))))
instance mo__law_half : MoS (B__law_half) := by unfold B__law_half; infer_instance
def F__law_half : PF0 := pDef0 3 4 (B__law_half)
instance moF__law_half : Mo0 (F__law_half) := by unfold F__law_half; infer_instance

def B__law_start : PTS :=
    (pSeq (pSet 4 (pLc (iRange1 (pOp oAdd (pVar 1) (pC (.int 1)))) (gN 5) pYes (pCl (c0 F__law_half) (pACons (pVar 0) (pACons (pIf (pTB (pOp oEq (pVar 5) (pC (.int 0)))) (pVar 2) (pC (.int 2))) (pACons (pVar 3) pANil)))) [5]))
    (pSeq (pSet 6 (pLc (iRange1 (pOp oAdd (pVar 1) (pC (.int 1)))) (gN 5) pYes (pIf (pTB (pOp oEq (pVar 5) (pC (.int 0)))) (pCl F__law_pick (pACons (pVar 0) (pACons (pLst (pACons (pTup (pACons (pC (.int 0)) (pACons (pC (.int 1)) pANil))) (pACons (pTup (pACons (pC (.int 1)) (pACons (pC (.int 2)) pANil))) (pACons (pTup (pACons (pC (.int 1)) (pACons (pC (.int 4)) pANil))) (pACons (pTup (pACons (pC (.int 1)) (pACons (pC (.int 10)) pANil))) (pACons (pTup (pACons (pC (.int 1)) (pACons (pC (.int 1)) pANil))) (pACons (pTup (pACons (pC (.int 1)) (pACons (pC (.int 20)) pANil))) pANil))))))) pANil))) (pCl F__law_pick (pACons (pVar 0) (pACons (pLst (pACons (pTup (pACons (pC (.int 0)) (pACons (pC (.int 1)) pANil))) (pACons (pTup (pACons (pC (.int 1)) (pACons (pC (.int 20)) pANil))) (pACons (pTup (pACons (pC (.int 1)) (pACons (pC (.int 4)) pANil))) (pACons (pTup (pACons (pC (.int 1)) (pACons (pC (.int 10)) pANil))) pANil))))) pANil)))) [5]))
    (pRet (pTup (pACons (pCl oTuple (pACons (pVar 4) pANil)) (pACons (pCl oTuple (pACons (pVar 6) pANil)) pANil))))))
instance mo__law_start : MoS (B__law_start) := by unfold B__law_start; infer_instance
def F__law_start : PF0 := pDef0 4 7 (B__law_start)
instance moF__law_start : Mo0 (F__law_start) := by unfold F__law_start; infer_instance

def B__law_own_draws : PTS :=
    (pSeq (pPar 2 3 (pScope (pCl oSum (pACons (pLc (iRange1 (pCl oLen (pACons (pVar 0) pANil))) (gN 4) pYes (pOp oMul (pOp oIx (pVar 0) (pVar 4)) (pOp oAdd (pVar 4) (pC (.int 1)))) [4]) pANil))) (pLst pANil))
    (pSeq (pFor (iRange1 (pVar 1)) (gN 5)
    (pSeq (pSet 2 (pOp oMod (pCl oInt (pACons (pOp oAdd (pOp oAdd (pOp oMul (pVar 2) (pC (.int 1103515245))) (pC (.int 12345))) (pOp oIx (pVar 0) (pOp oMod (pCl oInt (pACons (pVar 5) pANil)) (pCl oLen (pACons (pVar 0) pANil))))) pANil)) (pC (.int 2147483648))))
    (pDrop (pAppend (pVar 3) (pOp oFdiv (pVar 2) (pC (.int 65536)))))))
    (pRet (pCl oTuple (pACons (pVar 3) pANil)))))
instance mo__law_own_draws : MoS (B__law_own_draws) := by unfold B__law_own_draws; infer_instance
def F__law_own_draws : PF0 := pDef0 2 6 (B__law_own_draws)
instance moF__law_own_draws : Mo0 (F__law_own_draws) := by unfold F__law_own_draws; infer_instance

def B__law_own_start : PTS :=
    (pSeq (pPar3 2 3 4 (pACons (pCl (c0 F__law_own_draws) (pACons (pVar 0) (pACons (pOp oAdd (pOp oMul (pC (.int 2)) (pVar 1)) (pC (.int 2))) pANil))) (pACons (pLst pANil) (pACons (pLst pANil) pANil))))
    (pSeq (pFor (iRange1 (pOp oAdd (pVar 1) (pC (.int 1)))) (gN 5)
    (pSeq (pDrop (pAppend (pVar 3) (pCl (c0 F__law_fr) (pACons (pOp oSub (pOp oMod (pCl oInt (pACons (pOp oIx (pVar 2) (pOp oMul (pC (.int 2)) (pVar 5))) pANil)) (pC (.int 2001))) (pC (.int 1000))) (pACons (pC (.int 100)) pANil)))))
    (pDrop (pAppend (pVar 4) (pCl (c0 F__law_fr) (pACons (pOp oMod (pCl oInt (pACons (pOp oIx (pVar 2) (pOp oAdd (pOp oMul (pC (.int 2)) (pVar 5)) (pC (.int 1)))) pANil)) (pC (.int 50))) (pACons (pC (.int 100)) pANil)))))))
    (pRet (pTup (pACons (pCl oTuple (pACons (pVar 3) pANil)) (pACons (pCl oTuple (pACons (pVar 4) pANil)) pANil))))))
instance mo__law_own_start : MoS (B__law_own_start) := by unfold B__law_own_start; infer_instance
def F__law_own_start : PF0 := pDef0 2 6 (B__law_own_start)
instance moF__law_own_start : Mo0 (F__law_own_start) := by unfold F__law_own_start; infer_instance

def B__law_own_hand : PTS :=
    (pSeq (pSet 2 (pCl (c0 F__law_own_draws) (pACons (pVar 1) (pACons (pCl oLen (pACons (pOp oIx (pVar 0) (pC (.int 0))) pANil)) pANil))))
    (pRet (pScope (pCl oTuple (pACons (pLc (iRange1 (pCl oLen (pACons (pVar 2) pANil))) (gN 3) pYes (pCl (c0 F__law_times) (pACons (pOp oIx (pOp oIx (pVar 0) (pC (.int 1))) (pVar 3)) (pACons (pCl (c0 F__law_fr) (pACons (pOp oSub (pOp oMod (pCl oInt (pACons (pOp oIx (pVar 2) (pVar 3)) pANil)) (pC (.int 201))) (pC (.int 100))) (pACons (pC (.int 100)) pANil))) pANil))) [3]) pANil)))))
instance mo__law_own_hand : MoS (B__law_own_hand) := by unfold B__law_own_hand; infer_instance
def F__law_own_hand : PF0 := pDef0 2 4 (B__law_own_hand)
instance moF__law_own_hand : Mo0 (F__law_own_hand) := by unfold F__law_own_hand; infer_instance

def B__law_own_page : PTS :=
    (pSeq (pSet 2 (pCl (c0 F__law_own_draws) (pACons (pVar 0) (pACons (pOp oAdd (pOp oMul (pC (.int 2)) (pVar 1)) (pC (.int 4))) pANil))))
    (pRet (pTup (pACons (pCl (c0 F__law_own_start) (pACons (pVar 0) (pACons (pVar 1) pANil))) (pACons (pOp oSub (pOp oMod (pCl oInt (pACons (pOp oIx (pVar 2) (pOp oAdd (pOp oMul (pC (.int 2)) (pVar 1)) (pC (.int 2)))) pANil)) (pC (.int 21))) (pC (.int 10))) (pACons (pOp oAdd (pC (.int 5)) (pOp oMod (pCl oInt (pACons (pOp oIx (pVar 2) (pOp oAdd (pOp oMul (pC (.int 2)) (pVar 1)) (pC (.int 3)))) pANil)) (pC (.int 10)))) (pACons (pC (.int 0)) (pACons (pC (.str "up")) pANil))))))))
instance mo__law_own_page : MoS (B__law_own_page) := by unfold B__law_own_page; infer_instance
def F__law_own_page : PF0 := pDef0 2 3 (B__law_own_page)
instance moF__law_own_page : Mo0 (F__law_own_page) := by unfold F__law_own_page; infer_instance

def B__law_numbers : PTS :=
    (pRet (pScope (pCl oTuple (pACons (pLc (iRange1 (pCl F__law_pick (pACons (pVar 0) (pACons (pLst (pACons (pC (.int 1)) (pACons (pC (.int 2)) (pACons (pC (.int 3)) (pACons (pC (.int 4)) (pACons (pC (.int 60)) pANil)))))) pANil)))) (gN 1) pYes (pOp oMul (pCl (c0 F_draw) (pACons (pVar 0) (pACons (pC (.int 1000)) pANil))) (pCl F__law_pick (pACons (pVar 0) (pACons (pLst (pACons (pC (.int 1)) (pACons (pC (.int 1)) (pACons (pC (.int 977)) (pACons (pCl (c0 F__law_ten) (pACons (pC (.int 30)) pANil)) pANil))))) pANil)))) [1]) pANil))))
instance mo__law_numbers : MoS (B__law_numbers) := by unfold B__law_numbers; infer_instance
def F__law_numbers : PF0 := pDef0 1 2 (B__law_numbers)
instance moF__law_numbers : Mo0 (F__law_numbers) := by unfold F__law_numbers; infer_instance

def B_law : PTS :=
    (pSeq (pFor (iRange1 (pC (.int 3))) (gN 2)
    (pSeq (pAsg (pTup (pACons (pCl (c0 F__law_numbers) (pACons (pVar 1) pANil)) (pACons (pCl (c0 F__law_numbers) (pACons (pVar 1) pANil)) (pACons (pCl (c0 F_draw) (pACons (pVar 1) (pACons (pC (.int 7)) pANil))) (pACons (pCl (c0 F_draw) (pACons (pVar 1) (pACons (pC (.int 41)) pANil))) pANil))))) (gT 4 (gsCons (gN 3) (gsCons (gN 4) (gsCons (gN 5) (gsCons (gN 6) gsNil))))))
    (pSeq (pSet 7 (pCl (c0 F__law_own_draws) (pACons (pVar 3) (pACons (pVar 6) pANil))))
    (pSeq (pIfS (pNot (pTruth (pCl (c0 F__law_same) (pACons (pTup (pACons (pCl (c0 F_draws) (pACons (pVar 3) (pACons (pVar 6) pANil))) (pACons (pCl (c0 F_draws) (pPick [1, 0] (pApp 0 2 pANil (pACons (pVar 6) (pACons (pVar 3) pANil))))) pANil))) (pACons (pTup (pACons (pVar 7) (pACons (pVar 7) pANil))) pANil))))) (pRet (pC (.bl false))) pNext)
    (pSeq (pSet 7 (pCl (c0 F__law_own_start) (pACons (pVar 3) (pACons (pVar 5) pANil))))
    (pSeq (pIfS (pNot (pTruth (pCl (c0 F__law_same) (pACons (pTup (pACons (pCl (c0 F_drawn_start) (pACons (pVar 3) (pACons (pVar 5) pANil))) (pACons (pCl (c0 F_drawn_start) (pPick [1, 0] (pApp 0 2 pANil (pACons (pVar 5) (pACons (pVar 3) pANil))))) pANil))) (pACons (pTup (pACons (pVar 7) (pACons (pVar 7) pANil))) pANil))))) (pRet (pC (.bl false))) pNext)
    (pSeq (pSet 8 (pIf (pTB (pOp oEq (pCl (c0 F_draw) (pACons (pVar 1) (pACons (pC (.int 2)) pANil))) (pC (.int 0)))) (pVar 7) (pCl (c0 F__law_start) (pACons (pVar 1) (pACons (pVar 5) (pACons (pC (.int 6)) (pACons (pC (.int 4)) pANil)))))))
    (pSeq (pSet 7 (pCl (c0 F__law_own_hand) (pACons (pVar 8) (pACons (pVar 4) pANil))))
    (pSeq (pIfS (pOr (pNot (pTruth (pCl (c0 F__law_is_hand) (pACons (pVar 8) (pACons (pVar 7) pANil))))) (pNot (pTruth (pCl (c0 F__law_same) (pACons (pTup (pACons (pCl (c0 F_drawn_hand) (pACons (pVar 8) (pACons (pVar 4) pANil))) (pACons (pCl (c0 F_drawn_hand) (pPick [1, 0] (pApp 0 2 pANil (pACons (pVar 4) (pACons (pVar 8) pANil))))) pANil))) (pACons (pTup (pACons (pVar 7) (pACons (pVar 7) pANil))) pANil)))))) (pRet (pC (.bl false))) pNext)
    (pSeq (pSet 7 (pCl (c0 F__law_own_page) (pACons (pVar 3) (pACons (pVar 5) pANil))))
    (pIfS (pNot (pTruth (pCl (c0 F__law_same) (pACons (pTup (pACons (pCl (c0 F_drawn_page) (pACons (pVar 3) (pACons (pVar 5) pANil))) (pACons (pCl (c0 F_drawn_page) (pPick [1, 0] (pApp 0 2 pANil (pACons (pVar 5) (pACons (pVar 3) pANil))))) pANil))) (pACons (pTup (pACons (pVar 7) (pACons (pVar 7) pANil))) pANil))))) (pRet (pC (.bl false))) pNext)))))))))))
    (pRet (pC (.bl true))))
instance mo_law : MoS (B_law) := by unfold B_law; infer_instance

/-! ### the source of draws -/
def bagK : BagKind := ⟨0, fun own cs => ∃ (r g c : Addr) (b0 b1 : Int) (great cells : List Int), own = [r, g, c] ∧ cs = [[.int b0, .int b1, .ref g, .ref c], great.map V.int, cells.map V.int] ∧ 0 < cells.length, []⟩
local macro_rules | `(tactic| walk_at "w") => `(tactic| conv => whnf)
theorem draw_plain (b0 b1 : Int) (great cells : List Int) (m : Int) (hc : 0 < cells.length) (hm : 0 < m) (hm2 : m < 2 ^ 8000) (Q : PQ)
    (q : ∀ (r b0 b1 : Int) (great : List Int), 0 ≤ r → r < m → Q (.int r) [[.int b0, .int b1, .lst 1, .lst 2], great.map PV.int, cells.map PV.int]) :
    X__law_draw [.lst 0, .int m] [[.int b0, .int b1, .lst 1, .lst 2], great.map PV.int, cells.map PV.int] Q := by
  refine ⟨rfl, ?_⟩
  let I : PEnv → Store → Prop := fun ρ S => ∃ (b0 b1 : Int) (great : List Int), ρ = [some (.lst 0), some (.int m), none, none, none] ∧ S = [[.int b0, .int b1, .lst 1, .lst 2], great.map PV.int, cells.map PV.int]
  refine s_seq I ⟨b0, b1 + 1, great, rfl, rfl⟩ ?_
  rintro _ _ ⟨b0, b1, great, rfl, rfl⟩
  refine s_seq I ?_ ?_
  · have skip : I [some (.lst 0), some (.int m), none, none, none] [[.int b0, .int b1, .lst 1, .lst 2], great.map PV.int, cells.map PV.int] := ⟨b0, b1, great, rfl, rfl⟩
    walk_at "w"
    refine br (fun h => ?_) (fun h => skip)
    walk_at "w"
    refine br (fun h3 => ?_) (fun h => skip)
    have h3 : 0 < (great.map PV.int).length := by simpa using of_decide_eq_true h3
    have e1 : ∃ z gs, great.map PV.int = List.map PV.int gs ++ [PV.int z] := by
      rcases List.eq_nil_or_concat great with rfl | ⟨gs, z, rfl⟩
      · simp at h3
      · exact ⟨z, gs, by simp⟩
    obtain ⟨z, gs, e1⟩ := e1
    rw [e1]
    refine onO_of (o := (List.map PV.int gs ++ [PV.int z]).getLast?) (x := .int z) (by simp) ?_
    have e2 : (List.map PV.int gs ++ [PV.int z]).dropLast = List.map PV.int gs := by simp
    rw [e2]
    exact ⟨z, b1, gs, rfl, rfl⟩
  rintro _ _ ⟨b0, b1, great, rfl, rfl⟩
  refine s_seq I ?_ ?_
  · walk_at "w"
    refine br (fun h => ?_) (fun h => ⟨b0, b1, great, rfl, rfl⟩)
    walk_at "w"
    refine ⟨by omega, ?_⟩
    walk_at "w"
    refine ⟨divOk_of hm hm2, ?_⟩
    exact q _ _ _ _ (fmod_in _ hm).1 (fmod_in _ hm).2
  rintro _ _ ⟨b0, b1, great, rfl, rfl⟩
  walk_at "w"
  have hl : (0 : Int) < (cells.map PV.int).length := by simpa using hc
  refine ⟨by omega, ?_⟩
  obtain ⟨c, ec⟩ := at_ints (cells := cells) (fmod_in b1 hl).1 (by have := (fmod_in b1 hl).2; simpa using this)
  refine onO_of ec ?_
  walk_at "w"
  refine ⟨mulOk_r (by decide) (by decide), ?_⟩
  walk_at "w"
  refine ⟨mulOk_r (by decide) (by decide), ?_⟩
  walk_at "w"
  refine ⟨(show (2147483647 : Int) ≠ 0 by decide), ?_⟩
  have h5 := fmod_in (c * 48271 + b1 * 69621 + 1) (show (0 : Int) < 2147483647 by decide)
  walk_at "w"
  refine ⟨mulOk_r (by omega) (by omega), ?_⟩
  walk_at "w"
  refine ⟨mulOk_r (by decide) (by decide), ?_⟩
  walk_at "w"
  refine ⟨mulOk_r (by decide) (by decide), ?_⟩
  walk_at "w"
  refine ⟨(show (2147483629 : Int) ≠ 0 by decide), ?_⟩
  walk_at "w"
  refine ⟨divOk_of (by decide) (by decide +kernel), ?_⟩
  walk_at "w"
  refine ⟨by omega, ?_⟩
  exact q _ _ _ _ (fmod_in _ hm).1 (fmod_in _ hm).2
def madeB (r : PV) (S : Store) : Prop := ∃ (n g c : Nat) (great cells : List Int), r = .lst n ∧ S[n]? = some [.int 0, .int 0, .lst g, .lst c] ∧ S[g]? = some (great.map PV.int) ∧ S[c]? = some (cells.map PV.int) ∧ n ≠ g ∧ n ≠ c ∧ g ≠ c ∧ 0 < cells.length
theorem bag_plain (ns : List Int) (Q : PQ) (hl : ns.length ≤ 63) (q : ∀ r S', madeB r S' → Q r S') : X__law_bag [.rol (ns.map PV.int)] [] Q := by
  refine ⟨rfl, ?_⟩
  walk_at "w"
  refine pLcL_pure (S := []) (fun x => match x with | .int i => some (.int (i.natAbs : Int)) | _ => none) (fun acc => trivial) _ [] ?_ ?_ ?_
  · intro x hx acc Qk hq
    obtain ⟨i, _, rfl⟩ := List.mem_map.mp hx
    exact hq
  · simp; omega
  rw [fm_ints _ (fun i => .int (i.natAbs : Int)) (fun _ => rfl)]
  let cells : List Int := (ns.map fun i => (i.natAbs : Int)) ++ [7]
  have ec : [] ++ (ns.map fun i => PV.int (i.natAbs : Int)) ++ [PV.int 7] = cells.map PV.int := by simp [cells]
  have hlen : cells.length ≤ 64 := by simp [cells]; omega
  have hpos : 0 < cells.length := by simp [cells]
  generalize hys : (ns.map fun i => PV.int (i.natAbs : Int)) = ys at *
  have hyl : ys.length ≤ 63 := by rw [← hys]; simpa using hl
  walk_at "w"
  refine ⟨by simp, ?_⟩
  walk_at "w"
  refine ⟨by simp; omega, ?_⟩
  rw [ec]
  have fin : ∀ (S : Store) (gr : List Int) (g : Nat) (z : Option PV), S[2]? = some (cells.map PV.int) → S[g]? = some (gr.map PV.int) →
      (pRet (pLst (pACons (pC (.int 0)) (pACons (pC (.int 0)) (pACons (pVar 3) (pACons (pLc (iAny (pVar 1)) (gN 2) pYes (pOp oMod (pCl oInt (pACons (pVar 2) pANil)) (pC (.int 2147483647))) [2]) pANil))))) noX { nx := fun _ S' => Q .non S', rt := Q } [some (.rol (ns.map PV.int)), some (.lst 2), z, some (.lst g)] S) := by
    intro S gr g z s2 s3
    have l2 := (List.getElem?_eq_some_iff.mp s2).1
    have l3 := (List.getElem?_eq_some_iff.mp s3).1
    have old : ∀ (n : Nat) x (T : List (List PV)), n < S.length → S[n]? = some x → (S ++ T)[n]? = some x := fun n x T h e => by rw [List.getElem?_append_left h]; exact e
    walk_at "w"
    refine onO_of s2 ?_
    refine pLcL_pure (S := S) (fun x => match x with | .int i => some (.int (i.fmod 2147483647)) | _ => none) (fun acc => old 2 _ _ l2 s2) _ [] ?_ ?_ ?_
    · intro x hx acc Qk hq
      obtain ⟨i, _, rfl⟩ := List.mem_map.mp hx
      exact ⟨by decide, hq⟩
    · simp; omega
    rw [fm_ints _ (fun (i : Int) => .int (i.fmod 2147483647)) (fun _ => rfl)]
    refine ⟨by simp, ?_⟩
    refine q _ _ ⟨(S ++ [[] ++ cells.map fun (i : Int) => PV.int (i.fmod 2147483647)]).length, g, S.length, gr, cells.map fun (i : Int) => i.fmod 2147483647, rfl, by simp, ?_, ?_, ?_, ?_, ?_, by simpa using hpos⟩
    · rw [List.append_assoc]; exact old g _ _ l3 s3
    · simp
    · simp; omega
    · simp
    · omega
  refine ⟨by simp, ?_⟩
  dsimp only
  refine s_seq (fun ρ S => ∃ (gr : List Int) (g : Nat) (z : Option PV), ρ = [some (.rol (ns.map PV.int)), some (.lst 2), z, some (.lst g)] ∧ S[2]? = some (cells.map PV.int) ∧ S[g]? = some (gr.map PV.int)) ?_ ?_
  · walk_at "w"
    obtain ⟨c, e0⟩ := at_ints (cells := cells) (i := 0) (by decide) (by omega)
    refine onO_of e0 ?_
    walk_at "w"
    refine ⟨(show (2 : Int) ≠ 0 by decide), ?_⟩
    walk_at "w"
    refine br (fun h => ?_) (fun h => ⟨[], 3, _, rfl, rfl, rfl⟩)
    let f : PV → Option PV := fun x => match x with | .int i => (if 10 ^ 18 ≤ i then some (.int (i.fdiv 2)) else none) | _ => none
    have hg : ∀ xs : List Int, ∃ gr : List Int, (xs.map PV.int).filterMap f = gr.map PV.int := by
      intro xs
      induction xs with
      | nil => exact ⟨[], rfl⟩
      | cons x xs ih =>
        obtain ⟨gr, e⟩ := ih
        by_cases hx : (10 : Int) ^ 18 ≤ x
        · exact ⟨x.fdiv 2 :: gr, by rw [List.map_cons, List.filterMap_cons_some (b := .int (x.fdiv 2)) (by show (if _ then _ else _) = _; rw [if_pos hx]), e]; rfl⟩
        · exact ⟨gr, by rw [List.map_cons, List.filterMap_cons_none (by show (if _ then _ else _) = _; rw [if_neg hx]), e]⟩
    obtain ⟨gr, eg⟩ := hg cells
    walk_at "w"
    refine pLcL_pure (S := [[] ++ ys, [.int 7], cells.map PV.int, []]) f (fun acc => rfl) _ [] ?_ ?_ ?_
    · intro x hx acc Qk hq
      obtain ⟨i, _, rfl⟩ := List.mem_map.mp hx
      have hq : Qk (if 10 ^ 18 ≤ i then some (.int (i.fdiv 2)) else none) _ := hq
      refine ⟨⟨by decide, by decide, by decide⟩, ?_⟩
      walk_at "w"
      refine br (fun h => ?_) (fun h => ?_)
      · rw [if_pos (show (10 : Int) ^ 18 ≤ i from of_decide_eq_true h)] at hq
        exact ⟨divOk_of (by decide) (by decide +kernel), hq⟩
      · rw [if_neg (show ¬ (10 : Int) ^ 18 ≤ i from of_decide_eq_false h)] at hq
        exact hq
    · simp; omega
    rw [eg]
    refine ⟨gr.reverse, 4, _, rfl, rfl, ?_⟩
    rw [List.map_reverse]; rfl
  · rintro ρ S ⟨gr, g, z, rfl, s2, s3⟩
    exact fin S gr g z s2 s3
theorem same_any (Fr : PF0) [Mo0 Fr] (n : Nat) (hF : ∀ m, n = m + 1 → ∀ xs Q, F_same true m xs Q → Fr xs Q) : ∀ xs Q, F_same true n xs Q → X__law_same Fr xs Q := by
  intro xs Q q
  unfold F_same at q
  split at q
  case h_2 => exact q.elim
  rename_i a b
  obtain ⟨rfl, hd, q⟩ := q
  refine ⟨rfl, ?_⟩
  cases a with
  | non => walk_at "w"; exact ⟨rfl, q⟩
  | bl b =>
    walk_at "w"
    rw [decide_eq_true rfl]
    exact ⟨rfl, q⟩
  | int i =>
    walk_at "w"
    rw [decide_eq_true rfl]
    exact ⟨rfl, q⟩
  | str x =>
    walk_at "w"
    rw [decide_eq_true rfl]
    exact ⟨rfl, q⟩
  | tup xs =>
    cases n with
    | zero => simp [dat] at hd
    | succ d =>
    have hF := hF d rfl
    have hd : dat true (d + 1) (.tup xs) = true := hd
    simp only [dat, Bool.and_eq_true, decide_eq_true_eq] at hd
    walk_at "w"
    refine brF (by simp) ?_
    walk_at "w"
    refine ⟨by omega, by omega, ?_⟩
    have e : ((xs.length : Int)).toNat = xs.length := Int.toNat_natCast _
    rw [e]
    refine pForL_range (fun j ρ S => ∃ z, ρ = [some (.tup xs), some (.tup xs), z] ∧ S = []) ⟨_, rfl, rfl⟩ ?_ ?_
    · rintro j ρ S hj ⟨z, rfl, rfl⟩
      have ex : atI xs (j : Int) = some xs[j] := by rw [atI_get? (Int.natCast_nonneg j)]; simp [hj]
      have dx : dat true d xs[j] = true := dats_mem.mp hd.2 _ (List.getElem_mem hj)
      refine onO_of ex ?_
      refine onO_of ex ?_
      refine ⟨by simp [belows, dat_below dx], hF _ _ ⟨rfl, dx, ?_⟩⟩
      exact ⟨_, rfl, rfl⟩
    · rintro ρ S ⟨z, rfl, rfl⟩
      exact ⟨rfl, q⟩
  | lst _ => cases n <;> simp [dat] at hd
  | rol _ => cases n <;> simp [dat] at hd
  | bag => cases n <;> simp [dat] at hd
  | dic k => cases n <;> simp [dat] at hd
  | obj k => cases n <;> simp [dat] at hd
end Lawk88
namespace Lawk88
open PySem PySem.Spec PyProof.Rows L2 L2.P3
local macro_rules | `(tactic| walk_at "w") => `(tactic| conv => whnf)
structure Txt (K : PySem.W.Frag) (mg : Str → Option Value) (base : Heap) where
  f_frac : Addr
  d_frac : FuncData
  F_frac : Fun K "frac" "frac" s_frac f_frac d_frac
  m_frac : mg "frac" = some (.ref f_frac)
  b_frac : Binds K d_frac P_frac []
  f_times : Addr
  d_times : FuncData
  F_times : Fun K "times" "times" s_times f_times d_times
  m_times : mg "times" = some (.ref f_times)
  b_times : Binds K d_times P_times []
  f_Drawer_M_init : Addr
  d_Drawer_M_init : FuncData
  F_Drawer_M_init : Fun K "__init__" "Drawer.__init__" s_Drawer_M_init f_Drawer_M_init d_Drawer_M_init
  b_Drawer_M_init : Binds K d_Drawer_M_init P_Drawer_M_init []
  f_Drawer_M_draw : Addr
  d_Drawer_M_draw : FuncData
  F_Drawer_M_draw : Fun K "draw" "Drawer.draw" s_Drawer_M_draw f_Drawer_M_draw d_Drawer_M_draw
  b_Drawer_M_draw : Binds K d_Drawer_M_draw P_Drawer_M_draw []
  f_draws : Addr
  d_draws : FuncData
  F_draws : Fun K "draws" "draws" s_draws f_draws d_draws
  m_draws : mg "draws" = some (.ref f_draws)
  b_draws : Binds K d_draws P_draws []
  f_start_by : Addr
  d_start_by : FuncData
  F_start_by : Fun K "start_by" "start_by" s_start_by f_start_by d_start_by
  m_start_by : mg "start_by" = some (.ref f_start_by)
  b_start_by : Binds K d_start_by P_start_by []
  f_drawn_start : Addr
  d_drawn_start : FuncData
  F_drawn_start : Fun K "drawn_start" "drawn_start" s_drawn_start f_drawn_start d_drawn_start
  m_drawn_start : mg "drawn_start" = some (.ref f_drawn_start)
  b_drawn_start : Binds K d_drawn_start P_drawn_start []
  f_drawn_hand : Addr
  d_drawn_hand : FuncData
  F_drawn_hand : Fun K "drawn_hand" "drawn_hand" s_drawn_hand f_drawn_hand d_drawn_hand
  m_drawn_hand : mg "drawn_hand" = some (.ref f_drawn_hand)
  b_drawn_hand : Binds K d_drawn_hand P_drawn_hand []
  f_drawn_page : Addr
  d_drawn_page : FuncData
  F_drawn_page : Fun K "drawn_page" "drawn_page" s_drawn_page f_drawn_page d_drawn_page
  m_drawn_page : mg "drawn_page" = some (.ref f_drawn_page)
  b_drawn_page : Binds K d_drawn_page P_drawn_page []
  f__law_bag : Addr
  d__law_bag : FuncData
  F__law_bag : Fun K "_law_bag" "_law_bag" s__law_bag f__law_bag d__law_bag
  m__law_bag : mg "_law_bag" = some (.ref f__law_bag)
  b__law_bag : Binds K d__law_bag P__law_bag []
  f__law_draw : Addr
  d__law_draw : FuncData
  F__law_draw : Fun K "_law_draw" "_law_draw" s__law_draw f__law_draw d__law_draw
  m__law_draw : mg "_law_draw" = some (.ref f__law_draw)
  b__law_draw : Binds K d__law_draw P__law_draw []
  f__law_pick : Addr
  d__law_pick : FuncData
  F__law_pick : Fun K "_law_pick" "_law_pick" s__law_pick f__law_pick d__law_pick
  m__law_pick : mg "_law_pick" = some (.ref f__law_pick)
  b__law_pick : Binds K d__law_pick P__law_pick []
  f__law_same : Addr
  d__law_same : FuncData
  F__law_same : Fun K "_law_same" "_law_same" s__law_same f__law_same d__law_same
  m__law_same : mg "_law_same" = some (.ref f__law_same)
  b__law_same : Binds K d__law_same P__law_same []
  f__law_gcd : Addr
  d__law_gcd : FuncData
  F__law_gcd : Fun K "_law_gcd" "_law_gcd" s__law_gcd f__law_gcd d__law_gcd
  m__law_gcd : mg "_law_gcd" = some (.ref f__law_gcd)
  b__law_gcd : Binds K d__law_gcd P__law_gcd []
  f__law_fr : Addr
  d__law_fr : FuncData
  F__law_fr : Fun K "_law_fr" "_law_fr" s__law_fr f__law_fr d__law_fr
  m__law_fr : mg "_law_fr" = some (.ref f__law_fr)
  b__law_fr : Binds K d__law_fr P__law_fr []
  f__law_times : Addr
  d__law_times : FuncData
  F__law_times : Fun K "_law_times" "_law_times" s__law_times f__law_times d__law_times
  m__law_times : mg "_law_times" = some (.ref f__law_times)
  b__law_times : Binds K d__law_times P__law_times []
  f__law_less : Addr
  d__law_less : FuncData
  F__law_less : Fun K "_law_less" "_law_less" s__law_less f__law_less d__law_less
  m__law_less : mg "_law_less" = some (.ref f__law_less)
  b__law_less : Binds K d__law_less P__law_less []
  f__law_ten : Addr
  d__law_ten : FuncData
  F__law_ten : Fun K "_law_ten" "_law_ten" s__law_ten f__law_ten d__law_ten
  m__law_ten : mg "_law_ten" = some (.ref f__law_ten)
  b__law_ten : Binds K d__law_ten P__law_ten []
  f__law_is_whole : Addr
  d__law_is_whole : FuncData
  F__law_is_whole : Fun K "_law_is_whole" "_law_is_whole" s__law_is_whole f__law_is_whole d__law_is_whole
  m__law_is_whole : mg "_law_is_whole" = some (.ref f__law_is_whole)
  b__law_is_whole : Binds K d__law_is_whole P__law_is_whole []
  f__law_is_fraction : Addr
  d__law_is_fraction : FuncData
  F__law_is_fraction : Fun K "_law_is_fraction" "_law_is_fraction" s__law_is_fraction f__law_is_fraction d__law_is_fraction
  m__law_is_fraction : mg "_law_is_fraction" = some (.ref f__law_is_fraction)
  b__law_is_fraction : Binds K d__law_is_fraction P__law_is_fraction []
  f__law_is_hand : Addr
  d__law_is_hand : FuncData
  F__law_is_hand : Fun K "_law_is_hand" "_law_is_hand" s__law_is_hand f__law_is_hand d__law_is_hand
  m__law_is_hand : mg "_law_is_hand" = some (.ref f__law_is_hand)
  b__law_is_hand : Binds K d__law_is_hand P__law_is_hand []
  f__law_half : Addr
  d__law_half : FuncData
  F__law_half : Fun K "_law_half" "_law_half" s__law_half f__law_half d__law_half
  m__law_half : mg "_law_half" = some (.ref f__law_half)
  b__law_half : Binds K d__law_half P__law_half []
  f__law_start : Addr
  d__law_start : FuncData
  F__law_start : Fun K "_law_start" "_law_start" s__law_start f__law_start d__law_start
  m__law_start : mg "_law_start" = some (.ref f__law_start)
  b__law_start : Binds K d__law_start P__law_start []
  f__law_own_draws : Addr
  d__law_own_draws : FuncData
  F__law_own_draws : Fun K "_law_own_draws" "_law_own_draws" s__law_own_draws f__law_own_draws d__law_own_draws
  m__law_own_draws : mg "_law_own_draws" = some (.ref f__law_own_draws)
  b__law_own_draws : Binds K d__law_own_draws P__law_own_draws []
  f__law_own_start : Addr
  d__law_own_start : FuncData
  F__law_own_start : Fun K "_law_own_start" "_law_own_start" s__law_own_start f__law_own_start d__law_own_start
  m__law_own_start : mg "_law_own_start" = some (.ref f__law_own_start)
  b__law_own_start : Binds K d__law_own_start P__law_own_start []
  f__law_own_hand : Addr
  d__law_own_hand : FuncData
  F__law_own_hand : Fun K "_law_own_hand" "_law_own_hand" s__law_own_hand f__law_own_hand d__law_own_hand
  m__law_own_hand : mg "_law_own_hand" = some (.ref f__law_own_hand)
  b__law_own_hand : Binds K d__law_own_hand P__law_own_hand []
  f__law_own_page : Addr
  d__law_own_page : FuncData
  F__law_own_page : Fun K "_law_own_page" "_law_own_page" s__law_own_page f__law_own_page d__law_own_page
  m__law_own_page : mg "_law_own_page" = some (.ref f__law_own_page)
  b__law_own_page : Binds K d__law_own_page P__law_own_page []
  f__law_numbers : Addr
  d__law_numbers : FuncData
  F__law_numbers : Fun K "_law_numbers" "_law_numbers" s__law_numbers f__law_numbers d__law_numbers
  m__law_numbers : mg "_law_numbers" = some (.ref f__law_numbers)
  b__law_numbers : Binds K d__law_numbers P__law_numbers []
  f_law : Addr
  d_law : FuncData
  F_law : Fun K "law" "law" s_law f_law d_law
  m_law : mg "law" = some (.ref f_law)
  C_Drawer : Addr
  T_Drawer : TCls K C_Drawer "Drawer" fl_Drawer
  MK_Drawer : Mk K C_Drawer f_Drawer_M_init
  mC_Drawer : mg "Drawer" = some (.ref C_Drawer)
  ME_Drawer_M_draw : Meth K C_Drawer "draw" f_Drawer_M_draw
  tc_Drawer_M_init : Addr
  tp_Drawer_M_init : Addr
  cd_Drawer_M_init : d_Drawer_M_init.code = .ref tc_Drawer_M_init
  tb_Drawer_M_init : GxR.TabB base mg tc_Drawer_M_init tp_Drawer_M_init
  kb_draws_0 : KB K d_draws P_draws 0 ["many", "numbers"] [1, 0]
  kb_drawn_start_0 : KB K d_drawn_start P_drawn_start 0 ["d", "numbers"] [1, 0]
  kb_drawn_hand_0 : KB K d_drawn_hand P_drawn_hand 0 ["numbers", "start"] [1, 0]
  kb_drawn_page_0 : KB K d_drawn_page P_drawn_page 0 ["d", "numbers"] [1, 0]
  n_abs : mg "abs" = none
  n_bool : mg "bool" = none
  n_enumerate : mg "enumerate" = none
  n_int : mg "int" = none
  n_isinstance : mg "isinstance" = none
  n_len : mg "len" = none
  n_range : mg "range" = none
  n_str : mg "str" = none
  n_sum : mg "sum" = none
  n_tuple : mg "tuple" = none
  t_CUT : Tok
  m_CUT : mg "CUT" = some (.int 65536 t_CUT)
  t_FACTOR : Tok
  m_FACTOR : mg "FACTOR" = some (.int 1103515245 t_FACTOR)
  t_MORE : Tok
  m_MORE : mg "MORE" = some (.int 12345 t_MORE)
  t_ROUND : Tok
  m_ROUND : mg "ROUND" = some (.int 2147483648 t_ROUND)
  m_gcd : mg "gcd" = some (.builtin "math.gcd")
abbrev bagG {K : PySem.W.Frag} {mg : Str → Option Value} {base : Heap} (T : Txt K mg base) : BagKind := ⟨bagK.root, bagK.shape, [T.tp_Drawer_M_init]⟩
theorem mem_Drawer_M_init {K : PySem.W.Frag} {mg : Str → Option Value} {base : Heap} (T : Txt K mg base) : T.tp_Drawer_M_init ∈ (bagG T).tabs := List.Mem.head _

section
variable {P : Program} {w : World} {K : PySem.W.Frag} {mg : Str → Option Value} {base : Heap} {bk : BagKind}
theorem ok_frac (T : Txt K mg base) : FnOk P w K mg base CX0 1 T.f_frac T.d_frac P_frac (sp0 (bagG T) K F_frac) := by
  refine ok0 (N := N_frac) T.F_frac sc_frac rfl fun cdv A outer s H E hr => ?_
  exact (qs_cons (q_set (i := 2) sc_frac.nd rfl (Or.inl rfl) (q_callBfun cr_gcd oGcdP (by rfl) T.m_gcd (q_acons (q_var 0) (q_acons (q_var 1) q_anil))))
    (qs_cons (q_ifS (qt_cmp op_lt oLtP (q_var 1) q_int (nomark _)) (qs_one (q_set (i := 2) sc_frac.nd rfl (Or.inl rfl) (q_un un_neg oNegP (q_var 2)))) qs_nil)
    (qs_one (q_ret (q_tup (q_acons (q_op op_fdivX oFdivP (q_var 0) (q_var 2)) (q_acons (q_op op_fdivX oFdivP (q_var 1) (q_var 2)) q_anil)))))))
theorem ok_times (T : Txt K mg base) : FnOk P w K mg base CX0 2 T.f_times T.d_times P_times (sp0 (bagG T) K F_times) := by
  have G_frac := ok_frac (P := P) (w := w) (base := base) T
  refine ok0 (N := N_times) T.F_times sc_times rfl fun cdv A outer s H E hr => ?_
  exact (qs_one (q_ret (q_call G_frac (prom0) (hr.mono (by decide)) (by rfl) T.m_frac T.F_frac.kp T.b_frac (q_acons (q_op op_mulA oMulP (q_ix (q_var 0) q_int (fun _ _ => rfl)) (q_ix (q_var 1) q_int (fun _ _ => rfl))) (q_acons (q_op op_mulA oMulP (q_ix (q_var 0) q_int (fun _ _ => rfl)) (q_ix (q_var 1) q_int (fun _ _ => rfl))) q_anil)))))
theorem ok_Drawer_M_init (T : Txt K mg base) : FnOk P w K mg base CX0 2 T.f_Drawer_M_init T.d_Drawer_M_init P_Drawer_M_init (spS (bagG T) K F_Drawer_M_init) := by
  unfold F_Drawer_M_init
  refine okSg (N := N_Drawer_M_init) T.F_Drawer_M_init sc_Drawer_M_init rfl fun cdv A outer s H E hcd hr => ?_
  exact (qs_cons (q_setF (i := 0) T.T_Drawer (by rfl) (q_var 0) (q_var 1))
    (qs_cons (q_setF (i := 1) T.T_Drawer (by rfl) (q_var 0) q_int)
    (qs_one (q_setF (i := 2) T.T_Drawer (by rfl) (q_var 0) (q_sumG (k := 0) hr rfl sc_Drawer_M_init.nd (by rfl) T.n_sum T.tb_Drawer_M_init (hcd.symm.trans T.cd_Drawer_M_init) (mem_Drawer_M_init T) (gscp_by (blkOk_by (own := [("place", 2), ("number", 3)]) (N := N_Drawer_M_init) (sc := defScope s_Drawer_M_init) (by decide +kernel)) rfl (by decide +kernel) rfl) rfl (qi_enum (by rfl) T.n_enumerate (q_var 1)) (fun _ _ _ _ _ _ _ _ hr => (gw_tup rfl (gsw_cons (i := 2) (by decide) sc_Drawer_M_init.nd rfl (Or.inl rfl) (gsw_cons (i := 3) (by decide) sc_Drawer_M_init.nd rfl (Or.inl rfl) gsw_nil)))) (fun _ _ _ _ _ _ _ _ hr => qts_nil) (fun _ _ _ _ _ _ _ _ hr => (q_op op_mulA oMulP (q_var 3) (q_op op_addX oAddP (q_var 2) q_int))))))))
theorem ok_Drawer_M_draw (T : Txt K mg base) : FnOk P w K mg base CX0 1 T.f_Drawer_M_draw T.d_Drawer_M_draw P_Drawer_M_draw (spS (bagG T) K F_Drawer_M_draw) := by
  unfold F_Drawer_M_draw
  refine okS (N := N_Drawer_M_draw) T.F_Drawer_M_draw sc_Drawer_M_draw rfl fun cdv A outer s H E hr => ?_
  exact (qs_cons (q_set (i := 1) sc_Drawer_M_draw.nd rfl (Or.inl rfl) (q_ix (q_fld (i := 0) T.T_Drawer (by rfl) (q_var 0)) (q_op op_modN oModP (q_fld (i := 1) T.T_Drawer (by rfl) (q_var 0)) (q_callB call_len oLenP (by rfl) T.n_len PySem.boot_len (q_acons (q_fld (i := 0) T.T_Drawer (by rfl) (q_var 0)) q_anil))) (fun _ _ => rfl)))
    (qs_cons (q_setF (i := 2) T.T_Drawer (by rfl) (q_var 0) (q_op op_modN oModP (q_op op_addX oAddP (q_op op_addX oAddP (q_op op_mulA oMulP (q_fld (i := 2) T.T_Drawer (by rfl) (q_var 0)) (q_gint (by rfl) T.m_FACTOR)) (q_gint (by rfl) T.m_MORE)) (q_var 1)) (q_gint (by rfl) T.m_ROUND)))
    (qs_cons (q_augF (i := 1) T.T_Drawer (by rfl) (q_var 0) q_int iop_addX oAddIP)
    (qs_one (q_ret (q_op op_fdivX oFdivP (q_fld (i := 2) T.T_Drawer (by rfl) (q_var 0)) (q_gint (by rfl) T.m_CUT)))))))
theorem ok_draws (T : Txt K mg base) : FnOk P w K mg base CX0 4 T.f_draws T.d_draws P_draws (sp0 (bagG T) K F_draws) := by
  have G_Drawer_M_init := ok_Drawer_M_init (P := P) (w := w) (base := base) T
  have G_Drawer_M_draw := ok_Drawer_M_draw (P := P) (w := w) (base := base) T
  refine ok0 (N := N_draws) T.F_draws sc_draws rfl fun cdv A outer s H E hr => ?_
  exact (qs_cons (q_set (i := 2) sc_draws.nd rfl (Or.inr rfl) (q_make T.T_Drawer T.MK_Drawer G_Drawer_M_init (promS) (hr.mono (by decide)) (by rfl) T.mC_Drawer T.b_Drawer_M_init (q_acons (q_var 0) q_anil)))
    (qs_one (q_ret (q_callTy call_tuple_of oTupleP (by rfl) T.n_tuple bb_tuple (q_acons (q_lc rfl sc_draws.nd (qi_range1 (by rfl) T.n_range (q_var 1)) (blkOk_by (own := [("_", 3)]) (N := N_draws) (sc := defScope s_draws) (by decide +kernel)) rfl (fun _ _ _ _ _ => (gw_name (i := 3) (by decide) sc_draws.nd rfl (Or.inl rfl))) (fun _ _ _ _ _ => qts_nil) (fun _ _ _ _ _ => (q_meth0 T.T_Drawer (by decide +kernel) T.ME_Drawer_M_draw G_Drawer_M_draw (promS) (hr.mono (by decide)) T.b_Drawer_M_draw (q_var 2)))) q_anil)))))
theorem ok_start_by (T : Txt K mg base) : FnOk P w K mg base CX0 2 T.f_start_by T.d_start_by P_start_by (spS (bagG T) K F_start_by) := by
  unfold F_start_by
  have G_frac := ok_frac (P := P) (w := w) (base := base) T
  have G_Drawer_M_draw := ok_Drawer_M_draw (P := P) (w := w) (base := base) T
  refine okS (N := N_start_by) T.F_start_by sc_start_by rfl fun cdv A outer s H E hr => ?_
  exact (qs_cons (q_set (i := 2) sc_start_by.nd rfl (Or.inl rfl) (q_lst q_anil))
    (qs_cons (q_for PassesOwn.never rfl (qi_range1 (by rfl) T.n_range (q_op op_addX oAddP (q_var 1) q_int)) (g_name (i := 3) sc_start_by.nd rfl (Or.inl rfl))
    (qs_cons (q_set (i := 4) sc_start_by.nd rfl (Or.inl rfl) (q_call G_frac (prom0) (hr.mono (by decide)) (by rfl) T.m_frac T.F_frac.kp T.b_frac (q_acons (q_op op_sub oSubP (q_op op_modN oModP (q_meth0 T.T_Drawer (by decide +kernel) T.ME_Drawer_M_draw G_Drawer_M_draw (promS) (hr.mono (by decide)) T.b_Drawer_M_draw (q_var 0)) q_int) q_int) (q_acons q_int q_anil))))
    (qs_one (q_drop (q_append (q_var 2) (q_tup (q_acons (q_var 4) (q_acons (q_call G_frac (prom0) (hr.mono (by decide)) (by rfl) T.m_frac T.F_frac.kp T.b_frac (q_acons (q_op op_modN oModP (q_meth0 T.T_Drawer (by decide +kernel) T.ME_Drawer_M_draw G_Drawer_M_draw (promS) (hr.mono (by decide)) T.b_Drawer_M_draw (q_var 0)) q_int) (q_acons q_int q_anil))) q_anil))))))))
    (qs_one (q_ret (q_tup (q_acons (q_scope (q_callTy call_tuple_of oTupleP (by rfl) T.n_tuple bb_tuple (q_acons (q_lc rfl sc_start_by.nd (qi_any (q_var 2)) (blkOk_by (own := [("row", 5)]) (N := N_start_by) (sc := defScope s_start_by) (by decide +kernel)) rfl (fun _ _ _ _ _ => (gw_name (i := 5) (by decide) sc_start_by.nd rfl (Or.inl rfl))) (fun _ _ _ _ _ => qts_nil) (fun _ _ _ _ _ => (q_ix (q_var 5) q_int (fun _ _ => rfl)))) q_anil))) (q_acons (q_scope (q_callTy call_tuple_of oTupleP (by rfl) T.n_tuple bb_tuple (q_acons (q_lc rfl sc_start_by.nd (qi_any (q_var 2)) (blkOk_by (own := [("row", 5)]) (N := N_start_by) (sc := defScope s_start_by) (by decide +kernel)) rfl (fun _ _ _ _ _ => (gw_name (i := 5) (by decide) sc_start_by.nd rfl (Or.inl rfl))) (fun _ _ _ _ _ => qts_nil) (fun _ _ _ _ _ => (q_ix (q_var 5) q_int (fun _ _ => rfl)))) q_anil))) q_anil)))))))
theorem ok_drawn_start (T : Txt K mg base) : FnOk P w K mg base CX0 4 T.f_drawn_start T.d_drawn_start P_drawn_start (sp0 (bagG T) K F_drawn_start) := by
  have G_start_by := ok_start_by (P := P) (w := w) (base := base) T
  have G_Drawer_M_init := ok_Drawer_M_init (P := P) (w := w) (base := base) T
  refine ok0 (N := N_drawn_start) T.F_drawn_start sc_drawn_start rfl fun cdv A outer s H E hr => ?_
  exact (qs_one (q_ret (q_call G_start_by (promS) (hr.mono (by decide)) (by rfl) T.m_start_by T.F_start_by.kp T.b_start_by (q_acons (q_make T.T_Drawer T.MK_Drawer G_Drawer_M_init (promS) (hr.mono (by decide)) (by rfl) T.mC_Drawer T.b_Drawer_M_init (q_acons (q_var 0) q_anil)) (q_acons (q_var 1) q_anil)))))
theorem ok_drawn_hand (T : Txt K mg base) : FnOk P w K mg base CX0 4 T.f_drawn_hand T.d_drawn_hand P_drawn_hand (sp0 (bagG T) K F_drawn_hand) := by
  have G_Drawer_M_init := ok_Drawer_M_init (P := P) (w := w) (base := base) T
  have G_times := ok_times (P := P) (w := w) (base := base) T
  have G_frac := ok_frac (P := P) (w := w) (base := base) T
  have G_Drawer_M_draw := ok_Drawer_M_draw (P := P) (w := w) (base := base) T
  refine ok0 (N := N_drawn_hand) T.F_drawn_hand sc_drawn_hand rfl fun cdv A outer s H E hr => ?_
  exact (qs_cons (q_set (i := 2) sc_drawn_hand.nd rfl (Or.inr rfl) (q_make T.T_Drawer T.MK_Drawer G_Drawer_M_init (promS) (hr.mono (by decide)) (by rfl) T.mC_Drawer T.b_Drawer_M_init (q_acons (q_var 1) q_anil)))
    (qs_one (q_ret (q_callTy call_tuple_of oTupleP (by rfl) T.n_tuple bb_tuple (q_acons (q_lc rfl sc_drawn_hand.nd (qi_any (q_ix (q_var 0) q_int (fun _ _ => rfl))) (blkOk_by (own := [("unit", 3)]) (N := N_drawn_hand) (sc := defScope s_drawn_hand) (by decide +kernel)) rfl (fun _ _ _ _ _ => (gw_name (i := 3) (by decide) sc_drawn_hand.nd rfl (Or.inl rfl))) (fun _ _ _ _ _ => qts_nil) (fun _ _ _ _ _ => (q_call G_times (prom0) (hr.mono (by decide)) (by rfl) T.m_times T.F_times.kp T.b_times (q_acons (q_var 3) (q_acons (q_call G_frac (prom0) (hr.mono (by decide)) (by rfl) T.m_frac T.F_frac.kp T.b_frac (q_acons (q_op op_sub oSubP (q_op op_modN oModP (q_meth0 T.T_Drawer (by decide +kernel) T.ME_Drawer_M_draw G_Drawer_M_draw (promS) (hr.mono (by decide)) T.b_Drawer_M_draw (q_var 2)) q_int) q_int) (q_acons q_int q_anil))) q_anil))))) q_anil)))))
theorem ok_drawn_page (T : Txt K mg base) : FnOk P w K mg base CX0 4 T.f_drawn_page T.d_drawn_page P_drawn_page (sp0 (bagG T) K F_drawn_page) := by
  have G_Drawer_M_init := ok_Drawer_M_init (P := P) (w := w) (base := base) T
  have G_start_by := ok_start_by (P := P) (w := w) (base := base) T
  have G_Drawer_M_draw := ok_Drawer_M_draw (P := P) (w := w) (base := base) T
  refine ok0 (N := N_drawn_page) T.F_drawn_page sc_drawn_page rfl fun cdv A outer s H E hr => ?_
  exact (qs_cons (q_set (i := 2) sc_drawn_page.nd rfl (Or.inl rfl) (q_make T.T_Drawer T.MK_Drawer G_Drawer_M_init (promS) (hr.mono (by decide)) (by rfl) T.mC_Drawer T.b_Drawer_M_init (q_acons (q_var 0) q_anil)))
    (qs_cons (q_set (i := 3) sc_drawn_page.nd rfl (Or.inl rfl) (q_call G_start_by (promS) (hr.mono (by decide)) (by rfl) T.m_start_by T.F_start_by.kp T.b_start_by (q_acons (q_var 2) (q_acons (q_var 1) q_anil))))
    (qs_cons (q_set (i := 4) sc_drawn_page.nd rfl (Or.inl rfl) (q_op op_sub oSubP (q_op op_modN oModP (q_meth0 T.T_Drawer (by decide +kernel) T.ME_Drawer_M_draw G_Drawer_M_draw (promS) (hr.mono (by decide)) T.b_Drawer_M_draw (q_var 2)) q_int) q_int))
    (qs_one (q_ret (q_tup (q_acons (q_var 3) (q_acons (q_var 4) (q_acons (q_op op_addX oAddP q_int (q_op op_modN oModP (q_meth0 T.T_Drawer (by decide +kernel) T.ME_Drawer_M_draw G_Drawer_M_draw (promS) (hr.mono (by decide)) T.b_Drawer_M_draw (q_var 2)) q_int)) (q_acons q_int (q_acons q_str q_anil)))))))))))
theorem okx__law_bag (T : Txt K mg base) : FnOk P w K mg base CX0 1 T.f__law_bag T.d__law_bag P__law_bag (spS (bagG T) K X__law_bag) := by
  refine okS (N := N__law_bag) T.F__law_bag sc__law_bag rfl fun cdv A outer s H E hr => ?_
  exact (qs_cons (q_set (i := 1) sc__law_bag.nd rfl (Or.inl rfl) (q_op op_addX oAddP (q_lc rfl sc__law_bag.nd (qi_any (q_var 0)) (blkOk_by (own := [("cell", 2)]) (N := N__law_bag) (sc := defScope s__law_bag) (by decide +kernel)) rfl (fun _ _ _ _ _ => (gw_name (i := 2) (by decide) sc__law_bag.nd rfl (Or.inl rfl))) (fun _ _ _ _ _ => qts_nil) (fun _ _ _ _ _ => (q_callB call_abs oAbsP (by rfl) T.n_abs bb_abs (q_acons (q_callTy call_int1 oIntP (by rfl) T.n_int bb_int (q_acons (q_var 2) q_anil)) q_anil)))) (q_lst (q_acons q_int q_anil))))
    (qs_cons (q_set (i := 3) sc__law_bag.nd rfl (Or.inl rfl) (q_lst q_anil))
    (qs_cons (q_ifS (qt_cmp op_eq oEqP (q_op op_modN oModP (q_callTy call_int1 oIntP (by rfl) T.n_int bb_int (q_acons (q_ix (q_var 1) q_int (fun _ _ => rfl)) q_anil)) q_int) q_int (nomark _)) (qs_cons (q_setLc (j := 3) rfl sc__law_bag.nd rfl rfl (sw_true rfl rfl rfl (by decide +kernel)) (qi_any (q_var 1)) (blkOk_by (own := [("cell", 2)]) (N := N__law_bag) (sc := defScope s__law_bag) (by decide +kernel)) rfl (fun _ _ _ _ _ => (gw_name (i := 2) (by decide) sc__law_bag.nd rfl (Or.inl rfl))) (fun _ _ _ _ _ => (qts_one (qt_cmp op_ge oGeP (q_var 2) (q_op op_pow oPowP q_int q_int) (nomark _)))) (fun _ _ _ _ _ => (q_op op_fdivX oFdivP (q_var 2) q_int)))
    (qs_one (q_drop (q_reverse (q_var 3))))) qs_nil)
    (qs_one (q_ret (q_lst (q_acons q_int (q_acons q_int (q_acons (q_var 3) (q_acons (q_lc rfl sc__law_bag.nd (qi_any (q_var 1)) (blkOk_by (own := [("cell", 2)]) (N := N__law_bag) (sc := defScope s__law_bag) (by decide +kernel)) rfl (fun _ _ _ _ _ => (gw_name (i := 2) (by decide) sc__law_bag.nd rfl (Or.inl rfl))) (fun _ _ _ _ _ => qts_nil) (fun _ _ _ _ _ => (q_op op_modN oModP (q_callTy call_int1 oIntP (by rfl) T.n_int bb_int (q_acons (q_var 2) q_anil)) q_int))) q_anil))))))))))
theorem okx__law_draw (T : Txt K mg base) : FnOk P w K mg base CX0 1 T.f__law_draw T.d__law_draw P__law_draw (spS (bagG T) K X__law_draw) := by
  refine okS (N := N__law_draw) T.F__law_draw sc__law_draw rfl fun cdv A outer s H E hr => ?_
  exact (qs_cons (q_asg (q_op op_addX oAddP (q_ix (q_var 0) q_int (fun _ _ => rfl)) q_int) (g_ix (q_var 0) q_int))
    (qs_cons (q_ifS (QW.qt (qw_and (qt_cmp op_eq oEqP (q_ix (q_var 0) q_int (fun _ _ => rfl)) q_int (nomark _)) (qw_and1 (qt_cmp op_gt oGtP (q_callB call_len oLenP (by rfl) T.n_len PySem.boot_len (q_acons (q_ix (q_var 0) q_int (fun _ _ => rfl)) q_anil)) q_int (nomark _))))) (qs_one (q_asg (q_pop (q_ix (q_var 0) q_int (fun _ _ => rfl))) (g_ix (q_var 0) q_int))) qs_nil)
    (qs_cons (q_ifS (qt_cmp op_gt oGtP (q_ix (q_var 0) q_int (fun _ _ => rfl)) q_int (nomark _)) (qs_cons (q_set (i := 2) sc__law_draw.nd rfl (Or.inl rfl) (q_op op_modN oModP (q_callTy call_int1 oIntP (by rfl) T.n_int bb_int (q_acons (q_ix (q_var 0) q_int (fun _ _ => rfl)) q_anil)) (q_var 1)))
    (qs_cons (q_asg (q_op op_fdivX oFdivP (q_ix (q_var 0) q_int (fun _ _ => rfl)) (q_var 1)) (g_ix (q_var 0) q_int))
    (qs_one (q_ret (q_var 2))))) qs_nil)
    (qs_cons (q_set (i := 3) sc__law_draw.nd rfl (Or.inl rfl) (q_ix (q_ix (q_var 0) q_int (fun _ _ => rfl)) (q_op op_modN oModP (q_callTy call_int1 oIntP (by rfl) T.n_int bb_int (q_acons (q_ix (q_var 0) q_int (fun _ _ => rfl)) q_anil)) (q_callB call_len oLenP (by rfl) T.n_len PySem.boot_len (q_acons (q_ix (q_var 0) q_int (fun _ _ => rfl)) q_anil))) (fun _ _ => rfl)))
    (qs_cons (q_set (i := 4) sc__law_draw.nd rfl (Or.inl rfl) (q_op op_modN oModP (q_callTy call_int1 oIntP (by rfl) T.n_int bb_int (q_acons (q_op op_addX oAddP (q_op op_addX oAddP (q_op op_mulA oMulP (q_var 3) q_int) (q_op op_mulA oMulP (q_ix (q_var 0) q_int (fun _ _ => rfl)) q_int)) q_int) q_anil)) q_int))
    (qs_one (q_ret (q_op op_modN oModP (q_op op_fdivX oFdivP (q_op op_modN oModP (q_callTy call_int1 oIntP (by rfl) T.n_int bb_int (q_acons (q_op op_addX oAddP (q_op op_addX oAddP (q_op op_mulA oMulP (q_var 4) (q_var 4)) (q_op op_mulA oMulP (q_var 4) q_int)) (q_op op_mulA oMulP (q_ix (q_var 0) q_int (fun _ _ => rfl)) q_int)) q_anil)) q_int) q_int) (q_var 1)))))))))
/-! ### the source of draws: its promises -/
section
variable {P : Program} {w : World} {K : PySem.W.Frag} {mg : Str → Option Value} {base : Heap}
def goodB (S : Store) : Prop := ∃ (b0 b1 : Int) (great cells : List Int), S = [[.int b0, .int b1, .lst 1, .lst 2], great.map PV.int, cells.map PV.int] ∧ 0 < cells.length
theorem ok__law_draw (T : Txt K mg base) : FnOk P w K mg base CX0 1 T.f__law_draw T.d__law_draw P__law_draw (sp0 (bagG T) K F_draw) := by
  refine draw_of goodB (okx__law_draw T) (fun own cs sh hl => ?_) (fun own S gd hl => ?_) (fun S m Q gd hm hm2 q => ?_)
  · obtain ⟨r, g, c, b0, b1, great, cells, rfl, rfl, h2⟩ := sh
    refine ⟨_, ⟨b0, b1, great, cells, rfl, h2⟩, rfl, fun n xs e => ?_⟩
    match n, e with
    | 0, e =>
      obtain rfl := Option.some.inj e
      exact ⟨_, rfl, fun H => .cons to_int (.cons to_int (.cons (to_lst ⟨rfl, rfl⟩) (.cons (to_lst ⟨rfl, rfl⟩) .nil)))⟩
    | 1, e =>
      obtain rfl := Option.some.inj e
      exact ⟨_, rfl, fun H => rps_of_ints great⟩
    | 2, e =>
      obtain rfl := Option.some.inj e
      exact ⟨_, rfl, fun H => rps_of_ints cells⟩
  · obtain ⟨b0, b1, great, cells, rfl, h2⟩ := gd
    match own, hl with
    | [r, g, c], _ =>
      refine ⟨_, ⟨r, g, c, b0, b1, great, cells, rfl, rfl, h2⟩, rfl, fun n xs d H e hr => ?_⟩
      match n, e with
      | 0, e =>
        obtain rfl := Option.some.inj e
        simp only [Rps, Rp] at hr
        obtain ⟨_, _, rfl, rfl, _, _, rfl, rfl, _, _, rfl, ⟨a, ea, _, rfl⟩, _, _, rfl, ⟨a2, ea2, _, rfl⟩, rfl⟩ := hr
        obtain rfl := Option.some.inj ea
        obtain rfl := Option.some.inj ea2
        rfl
      | 1, e =>
        obtain rfl := Option.some.inj e
        rw [rps_ints hr]; rfl
      | 2, e =>
        obtain rfl := Option.some.inj e
        rw [rps_ints hr]; rfl
  · obtain ⟨b0, b1, great, cells, rfl, h2⟩ := gd
    exact draw_plain b0 b1 great cells m h2 hm hm2 Q fun r g0 g1 gr h0 h1 => q _ _ h0 h1 ⟨g0, g1, gr, cells, rfl, h2⟩ rfl
theorem ok__law_bag (T : Txt K mg base) : FnOk P w K mg base CX0 1 T.f__law_bag T.d__law_bag P__law_bag (spBag (bagG T) K) := by
  refine bag_of (okx__law_bag T) bag_plain fun M' S' H' r v eb s r' gd => ?_
  obtain ⟨n, g, c, great, cells, rfl, en, eg, ec, hng, hnc, hgc, hpos⟩ := gd
  obtain ⟨a, ea, rfl⟩ := rp_lst r'
  obtain ⟨vs2, ha, ra⟩ := s.lst ea en
  simp only [Rps, Rp] at ra
  obtain ⟨_, _, rfl, rfl, _, _, rfl, rfl, _, _, rfl, ⟨b, eb', kb, rfl⟩, _, _, rfl, ⟨d, ed', kd, rfl⟩, rfl⟩ := ra
  obtain ⟨vs, hb, rb⟩ := s.lst ⟨eb', kb⟩ eg
  obtain ⟨vd, hd, rd⟩ := s.lst ⟨ed', kd⟩ ec
  have hv := rps_ints rb
  subst hv
  have hv := rps_ints rd
  subst hv
  replace ea := ea.1
  refine ⟨[a, b, d], a, rfl, ⟨?_, (by show 0 < 3; decide), _, ⟨a, b, d, 0, 0, great, cells, rfl, rfl, hpos⟩, rfl, fun n c e => ?_⟩, rfl⟩
  · have h1 : a ≠ b := fun e => by
      subst e
      exact absurd (nd_ix s.st.nd ea eb') hng
    have h2 : a ≠ d := fun e => by
      subst e
      exact absurd (nd_ix s.st.nd ea ed') hnc
    have h3 : b ≠ d := fun e => by
      subst e
      exact absurd (nd_ix s.st.nd eb' ed') hgc
    simp [h1, h2, h3]
  · match n, e with
    | 0, e => obtain rfl := Option.some.inj e; exact ⟨_, rfl, ha⟩
    | 1, e => obtain rfl := Option.some.inj e; exact ⟨_, rfl, hb⟩
    | 2, e => obtain rfl := Option.some.inj e; exact ⟨_, rfl, hd⟩
end
theorem ok__law_pick (T : Txt K mg base) : FnOk P w K mg base CX0 2 T.f__law_pick T.d__law_pick P__law_pick (spS (bagG T) K F__law_pick) := by
  unfold F__law_pick
  have G__law_draw := ok__law_draw (P := P) (w := w) (base := base) T
  refine okC (N := N__law_pick) T.F__law_pick sc__law_pick rfl fun cdv A outer s H E hr => ?_
  exact (qs_one (q_ret (q_ix (q_var 1) (q_call G__law_draw (prom0) (hr.mono (by decide)) (by rfl) T.m__law_draw T.F__law_draw.kp T.b__law_draw (q_acons (q_var 0) (q_acons (q_callB call_len oLenP (by rfl) T.n_len PySem.boot_len (q_acons (q_var 1) q_anil)) q_anil))) (fun _ _ => rfl))))
theorem okr__law_same (T : Txt K mg base) {k : Nat} (Fr : PF0) [Mo0 Fr] (Gr : FnOk P w K mg base CX0 k T.f__law_same T.d__law_same P__law_same (sp0 (bagG T) K Fr)) : FnOk P w K mg base CX0 (k + 1) T.f__law_same T.d__law_same P__law_same (sp0 (bagG T) K (X__law_same Fr)) := by
  refine ok0 (N := N__law_same) T.F__law_same sc__law_same rfl fun cdv A outer s H E hr => ?_
  exact (qs_cons (q_ifS (qt_cmp op_isN oIsNP (q_var 1) q_non (nomark _)) (qs_one (q_ret (q_cmp op_isN oIsNP (q_var 0) q_non (nomark _)))) qs_nil)
    (qs_cons (q_ifS (QW.qt (qw_or (qt_truth (q_isi isi_bool (by rfl) T.n_isinstance bb_isinstance (q_var 1) (by rfl) T.n_bool bb_bool)) (qw_or1 (qt_truth (q_isi isi_bool (by rfl) T.n_isinstance bb_isinstance (q_var 0) (by rfl) T.n_bool bb_bool))))) (qs_one (q_ret (q_and (q_isi isi_bool (by rfl) T.n_isinstance bb_isinstance (q_var 1) (by rfl) T.n_bool bb_bool) (q_and (q_isi isi_bool (by rfl) T.n_isinstance bb_isinstance (q_var 0) (by rfl) T.n_bool bb_bool) (q_one (q_cmp op_eq oEqP (q_var 0) (q_var 1) (nomark _))))))) qs_nil)
    (qs_cons (q_ifS (qt_truth (q_isi isi_int (by rfl) T.n_isinstance bb_isinstance (q_var 1) (by rfl) T.n_int bb_int)) (qs_one (q_ret (q_and (q_isi isi_int (by rfl) T.n_isinstance bb_isinstance (q_var 0) (by rfl) T.n_int bb_int) (q_one (q_cmp op_eq oEqP (q_var 0) (q_var 1) (nomark _)))))) qs_nil)
    (qs_cons (q_ifS (qt_truth (q_isi isi_str (by rfl) T.n_isinstance bb_isinstance (q_var 1) (by rfl) T.n_str bb_str)) (qs_one (q_ret (q_and (q_isi isi_str (by rfl) T.n_isinstance bb_isinstance (q_var 0) (by rfl) T.n_str bb_str) (q_one (q_cmp op_eq oEqP (q_var 0) (q_var 1) (nomark _)))))) qs_nil)
    (qs_cons (q_ifS (QW.qt (qw_or (qt_not (qt_truth (q_isi isi_tuple (by rfl) T.n_isinstance bb_isinstance (q_var 1) (by rfl) T.n_tuple bb_tuple))) (qw_or (qt_not (qt_truth (q_isi isi_tuple (by rfl) T.n_isinstance bb_isinstance (q_var 0) (by rfl) T.n_tuple bb_tuple))) (qw_or1 (qt_cmp op_ne oNeP (q_callB call_len oLenP (by rfl) T.n_len PySem.boot_len (q_acons (q_var 0) q_anil)) (q_callB call_len oLenP (by rfl) T.n_len PySem.boot_len (q_acons (q_var 1) q_anil)) (nomark _)))))) (qs_one (q_ret q_bl)) qs_nil)
    (qs_cons (q_for PassesOwn.never rfl (qi_range1 (by rfl) T.n_range (q_callB call_len oLenP (by rfl) T.n_len PySem.boot_len (q_acons (q_var 1) q_anil))) (g_name (i := 2) sc__law_same.nd rfl (Or.inl rfl))
    (qs_one (q_ifS (qt_not (qt_truth (q_call Gr (prom0) hr (by rfl) T.m__law_same T.F__law_same.kp T.b__law_same (q_acons (q_ix (q_var 0) (q_var 2) (fun _ _ => rfl)) (q_acons (q_ix (q_var 1) (q_var 2) (fun _ _ => rfl)) q_anil))))) (qs_one (q_ret q_bl)) qs_nil)))
    (qs_one (q_ret q_bl))))))))
theorem ok__law_same (T : Txt K mg base) : FnOk P w K mg base CX0 8 T.f__law_same T.d__law_same P__law_same (sp0 (bagG T) K F__law_same) := by
  have go : ∀ d, FnOk P w K mg base CX0 (d + 2) T.f__law_same T.d__law_same P__law_same (sp0 (bagG T) K (F_same true d)) := by
    intro d
    induction d with
    | zero => exact sp0_imp (okr__law_same T (fun _ _ => False) (ok_false (k := 1))) (same_any _ 0 fun m e => absurd e (by omega))
    | succ d ih => exact sp0_imp (okr__law_same T (F_same true d) ih) (same_any _ (d + 1) fun m e xs Q q => by
        obtain rfl : d = m := by omega
        exact q)
  exact go 6
theorem ok__law_gcd (T : Txt K mg base) : FnOk P w K mg base CX0 1 T.f__law_gcd T.d__law_gcd P__law_gcd (sp0 (bagG T) K F__law_gcd) := by
  refine ok0 (N := N__law_gcd) T.F__law_gcd sc__law_gcd rfl fun cdv A outer s H E hr => ?_
  exact (qs_cons (q_par (i := 0) (j := 1) rfl sc__law_gcd.nd rfl rfl (by decide) rfl rfl (q_callB call_abs oAbsP (by rfl) T.n_abs bb_abs (q_acons (q_var 0) q_anil)) (q_callB call_abs oAbsP (by rfl) T.n_abs bb_abs (q_acons (q_var 1) q_anil)) (by rfl))
    (qs_cons (q_while PassesOwn.never (qt_cmp op_ne oNeP (q_var 1) q_int (nomark _))
    (qs_one (q_par (i := 0) (j := 1) rfl sc__law_gcd.nd rfl rfl (by decide) rfl rfl (q_var 1) (q_op op_modN oModP (q_callTy call_int1 oIntP (by rfl) T.n_int bb_int (q_acons (q_var 0) q_anil)) (q_var 1)) (by rfl))))
    (qs_one (q_ret (q_var 0)))))
theorem ok__law_fr (T : Txt K mg base) : FnOk P w K mg base CX0 2 T.f__law_fr T.d__law_fr P__law_fr (sp0 (bagG T) K F__law_fr) := by
  have G__law_gcd := ok__law_gcd (P := P) (w := w) (base := base) T
  refine ok0 (N := N__law_fr) T.F__law_fr sc__law_fr rfl fun cdv A outer s H E hr => ?_
  exact (qs_cons (q_set (i := 2) sc__law_fr.nd rfl (Or.inl rfl) (q_call G__law_gcd (prom0) (hr.mono (by decide)) (by rfl) T.m__law_gcd T.F__law_gcd.kp T.b__law_gcd (q_acons (q_var 0) (q_acons (q_var 1) q_anil))))
    (qs_one (q_ret (q_tup (q_acons (q_op op_fdivX oFdivP (q_var 0) (q_var 2)) (q_acons (q_op op_fdivX oFdivP (q_var 1) (q_var 2)) q_anil))))))
theorem ok__law_times (T : Txt K mg base) : FnOk P w K mg base CX0 3 T.f__law_times T.d__law_times P__law_times (sp0 (bagG T) K F__law_times) := by
  have G__law_fr := ok__law_fr (P := P) (w := w) (base := base) T
  refine ok0 (N := N__law_times) T.F__law_times sc__law_times rfl fun cdv A outer s H E hr => ?_
  exact (qs_one (q_ret (q_call G__law_fr (prom0) (hr.mono (by decide)) (by rfl) T.m__law_fr T.F__law_fr.kp T.b__law_fr (q_acons (q_op op_mulA oMulP (q_ix (q_var 0) q_int (fun _ _ => rfl)) (q_ix (q_var 1) q_int (fun _ _ => rfl))) (q_acons (q_op op_mulA oMulP (q_ix (q_var 0) q_int (fun _ _ => rfl)) (q_ix (q_var 1) q_int (fun _ _ => rfl))) q_anil)))))
theorem ok__law_less (T : Txt K mg base) : FnOk P w K mg base CX0 1 T.f__law_less T.d__law_less P__law_less (sp0 (bagG T) K F__law_less) := by
  refine ok0 (N := N__law_less) T.F__law_less sc__law_less rfl fun cdv A outer s H E hr => ?_
  exact (qs_one (q_ret (q_cmp op_lt oLtP (q_op op_mulA oMulP (q_ix (q_var 0) q_int (fun _ _ => rfl)) (q_ix (q_var 1) q_int (fun _ _ => rfl))) (q_op op_mulA oMulP (q_ix (q_var 1) q_int (fun _ _ => rfl)) (q_ix (q_var 0) q_int (fun _ _ => rfl))) (nomark _))))
theorem ok__law_ten (T : Txt K mg base) : FnOk P w K mg base CX0 1 T.f__law_ten T.d__law_ten P__law_ten (sp0 (bagG T) K F__law_ten) := by
  refine ok0 (N := N__law_ten) T.F__law_ten sc__law_ten rfl fun cdv A outer s H E hr => ?_
  exact (qs_cons (q_set (i := 1) sc__law_ten.nd rfl (Or.inl rfl) q_int)
    (qs_cons (q_for PassesOwn.never rfl (qi_range1 (by rfl) T.n_range (q_var 0)) (g_name (i := 2) sc__law_ten.nd rfl (Or.inl rfl))
    (qs_one (q_set (i := 1) sc__law_ten.nd rfl (Or.inl rfl) (q_op op_mulA oMulP (q_var 1) q_int))))
    (qs_one (q_ret (q_var 1)))))
theorem ok__law_is_whole (T : Txt K mg base) : FnOk P w K mg base CX0 1 T.f__law_is_whole T.d__law_is_whole P__law_is_whole (sp0 (bagG T) K F__law_is_whole) := by
  refine ok0 (N := N__law_is_whole) T.F__law_is_whole sc__law_is_whole rfl fun cdv A outer s H E hr => ?_
  exact (qs_one (q_ret (q_and (q_isi isi_int (by rfl) T.n_isinstance bb_isinstance (q_var 0) (by rfl) T.n_int bb_int) (q_one (q_not (q_isi isi_bool (by rfl) T.n_isinstance bb_isinstance (q_var 0) (by rfl) T.n_bool bb_bool))))))
theorem ok__law_is_fraction (T : Txt K mg base) : FnOk P w K mg base CX0 2 T.f__law_is_fraction T.d__law_is_fraction P__law_is_fraction (sp0 (bagG T) K F__law_is_fraction) := by
  have G__law_is_whole := ok__law_is_whole (P := P) (w := w) (base := base) T
  have G__law_gcd := ok__law_gcd (P := P) (w := w) (base := base) T
  refine ok0 (N := N__law_is_fraction) T.F__law_is_fraction sc__law_is_fraction rfl fun cdv A outer s H E hr => ?_
  exact (qs_cons (q_ifS (QW.qt (qw_or (qt_not (qt_truth (q_isi isi_tuple (by rfl) T.n_isinstance bb_isinstance (q_var 0) (by rfl) T.n_tuple bb_tuple))) (qw_or (qt_cmp op_ne oNeP (q_callB call_len oLenP (by rfl) T.n_len PySem.boot_len (q_acons (q_var 0) q_anil)) q_int (nomark _)) (qw_or (qt_not (qt_truth (q_call G__law_is_whole (prom0) (hr.mono (by decide)) (by rfl) T.m__law_is_whole T.F__law_is_whole.kp T.b__law_is_whole (q_acons (q_ix (q_var 0) q_int (fun _ _ => rfl)) q_anil)))) (qw_or (qt_not (qt_truth (q_call G__law_is_whole (prom0) (hr.mono (by decide)) (by rfl) T.m__law_is_whole T.F__law_is_whole.kp T.b__law_is_whole (q_acons (q_ix (q_var 0) q_int (fun _ _ => rfl)) q_anil)))) (qw_or1 (qt_cmp op_lt oLtP (q_ix (q_var 0) q_int (fun _ _ => rfl)) q_int (nomark _)))))))) (qs_one (q_ret q_bl)) qs_nil)
    (qs_one (q_ret (q_cmp op_eq oEqP (q_call G__law_gcd (prom0) (hr.mono (by decide)) (by rfl) T.m__law_gcd T.F__law_gcd.kp T.b__law_gcd (q_acons (q_callB call_abs oAbsP (by rfl) T.n_abs bb_abs (q_acons (q_ix (q_var 0) q_int (fun _ _ => rfl)) q_anil)) (q_acons (q_ix (q_var 0) q_int (fun _ _ => rfl)) q_anil))) q_int (nomark _)))))
theorem ok__law_is_hand (T : Txt K mg base) : FnOk P w K mg base CX0 3 T.f__law_is_hand T.d__law_is_hand P__law_is_hand (sp0 (bagG T) K F__law_is_hand) := by
  have G__law_is_fraction := ok__law_is_fraction (P := P) (w := w) (base := base) T
  have G__law_less := ok__law_less (P := P) (w := w) (base := base) T
  refine ok0 (N := N__law_is_hand) T.F__law_is_hand sc__law_is_hand rfl fun cdv A outer s H E hr => ?_
  exact (qs_cons (q_ifS (QW.qt (qw_or (qt_not (qt_truth (q_isi isi_tuple (by rfl) T.n_isinstance bb_isinstance (q_var 1) (by rfl) T.n_tuple bb_tuple))) (qw_or1 (qt_cmp op_ne oNeP (q_callB call_len oLenP (by rfl) T.n_len PySem.boot_len (q_acons (q_var 1) q_anil)) (q_callB call_len oLenP (by rfl) T.n_len PySem.boot_len (q_acons (q_ix (q_var 0) q_int (fun _ _ => rfl)) q_anil)) (nomark _))))) (qs_one (q_ret q_bl)) qs_nil)
    (qs_cons (q_for PassesOwn.never rfl (qi_range1 (by rfl) T.n_range (q_callB call_len oLenP (by rfl) T.n_len PySem.boot_len (q_acons (q_var 1) q_anil))) (g_name (i := 2) sc__law_is_hand.nd rfl (Or.inl rfl))
    (qs_one (q_ifS (QW.qt (qw_or (qt_not (qt_truth (q_call G__law_is_fraction (prom0) (hr.mono (by decide)) (by rfl) T.m__law_is_fraction T.F__law_is_fraction.kp T.b__law_is_fraction (q_acons (q_ix (q_var 1) (q_var 2) (fun _ _ => rfl)) q_anil)))) (qw_or1 (qt_truth (q_call G__law_less (prom0) (hr.mono (by decide)) (by rfl) T.m__law_less T.F__law_less.kp T.b__law_less (q_acons (q_ix (q_ix (q_var 0) q_int (fun _ _ => rfl)) (q_var 2) (fun _ _ => rfl)) (q_acons (q_tup (q_acons (q_callB call_abs oAbsP (by rfl) T.n_abs bb_abs (q_acons (q_ix (q_ix (q_var 1) (q_var 2) (fun _ _ => rfl)) q_int (fun _ _ => rfl)) q_anil)) (q_acons (q_ix (q_ix (q_var 1) (q_var 2) (fun _ _ => rfl)) q_int (fun _ _ => rfl)) q_anil))) q_anil))))))) (qs_one (q_ret q_bl)) qs_nil)))
    (qs_one (q_ret q_bl))))
theorem ok__law_half (T : Txt K mg base) : FnOk P w K mg base CX0 3 T.f__law_half T.d__law_half P__law_half (sp0 (bagG T) K F__law_half) := by
  have G__law_draw := ok__law_draw (P := P) (w := w) (base := base) T
  have G__law_fr := ok__law_fr (P := P) (w := w) (base := base) T
  refine ok0 (N := N__law_half) T.F__law_half sc__law_half rfl fun cdv A outer s H E hr => ?_
  exact (qs_cons (q_set (i := 3) sc__law_half.nd rfl (Or.inl rfl) (q_op op_addX oAddP q_int (q_call G__law_draw (prom0) (hr.mono (by decide)) (by rfl) T.m__law_draw T.F__law_draw.kp T.b__law_draw (q_acons (q_var 0) (q_acons (q_var 2) q_anil)))))
    (qs_one (q_ret (q_call G__law_fr (prom0) (hr.mono (by decide)) (by rfl) T.m__law_fr T.F__law_fr.kp T.b__law_fr (q_acons (q_op op_sub oSubP (q_call G__law_draw (prom0) (hr.mono (by decide)) (by rfl) T.m__law_draw T.F__law_draw.kp T.b__law_draw (q_acons (q_var 0) (q_acons (q_op op_addX oAddP (q_op op_mulA oMulP (q_op op_mulA oMulP q_int (q_var 1)) (q_var 3)) q_int) q_anil))) (q_op op_mulA oMulP (q_var 1) (q_var 3))) (q_acons (q_var 3) q_anil))))))
theorem ok__law_start (T : Txt K mg base) : FnOk P w K mg base CX0 4 T.f__law_start T.d__law_start P__law_start (sp0 (bagG T) K F__law_start) := by
  have G__law_half := ok__law_half (P := P) (w := w) (base := base) T
  have G__law_pick := ok__law_pick (P := P) (w := w) (base := base) T
  refine ok0 (N := N__law_start) T.F__law_start sc__law_start rfl fun cdv A outer s H E hr => ?_
  exact (qs_cons (q_setLc (j := 4) rfl sc__law_start.nd rfl rfl (sw_true rfl rfl rfl (by decide +kernel)) (qi_range1 (by rfl) T.n_range (q_op op_addX oAddP (q_var 1) q_int)) (blkOk_by (own := [("j", 5)]) (N := N__law_start) (sc := defScope s__law_start) (by decide +kernel)) rfl (fun _ _ _ _ _ => (gw_name (i := 5) (by decide) sc__law_start.nd rfl (Or.inl rfl))) (fun _ _ _ _ _ => qts_nil) (fun _ _ _ _ _ => (q_call G__law_half (prom0) (hr.mono (by decide)) (by rfl) T.m__law_half T.F__law_half.kp T.b__law_half (q_acons (q_var 0) (q_acons (q_if (qt_cmp op_eq oEqP (q_var 5) q_int (nomark _)) (q_var 2) q_int) (q_acons (q_var 3) q_anil))))))
    (qs_cons (q_setLc (j := 6) rfl sc__law_start.nd rfl rfl (sw_true rfl rfl rfl (by decide +kernel)) (qi_range1 (by rfl) T.n_range (q_op op_addX oAddP (q_var 1) q_int)) (blkOk_by (own := [("j", 5)]) (N := N__law_start) (sc := defScope s__law_start) (by decide +kernel)) rfl (fun _ _ _ _ _ => (gw_name (i := 5) (by decide) sc__law_start.nd rfl (Or.inl rfl))) (fun _ _ _ _ _ => qts_nil) (fun _ _ _ _ _ => (q_if (qt_cmp op_eq oEqP (q_var 5) q_int (nomark _)) (q_call G__law_pick (promS) (hr.mono (by decide)) (by rfl) T.m__law_pick T.F__law_pick.kp T.b__law_pick (q_acons (q_var 0) (q_acons (q_lst (q_acons (q_tup (q_acons q_int (q_acons q_int q_anil))) (q_acons (q_tup (q_acons q_int (q_acons q_int q_anil))) (q_acons (q_tup (q_acons q_int (q_acons q_int q_anil))) (q_acons (q_tup (q_acons q_int (q_acons q_int q_anil))) (q_acons (q_tup (q_acons q_int (q_acons q_int q_anil))) (q_acons (q_tup (q_acons q_int (q_acons q_int q_anil))) q_anil))))))) q_anil))) (q_call G__law_pick (promS) (hr.mono (by decide)) (by rfl) T.m__law_pick T.F__law_pick.kp T.b__law_pick (q_acons (q_var 0) (q_acons (q_lst (q_acons (q_tup (q_acons q_int (q_acons q_int q_anil))) (q_acons (q_tup (q_acons q_int (q_acons q_int q_anil))) (q_acons (q_tup (q_acons q_int (q_acons q_int q_anil))) (q_acons (q_tup (q_acons q_int (q_acons q_int q_anil))) q_anil))))) q_anil))))))
    (qs_one (q_ret (q_tup (q_acons (q_callTy call_tuple_of oTupleP (by rfl) T.n_tuple bb_tuple (q_acons (q_var 4) q_anil)) (q_acons (q_callTy call_tuple_of oTupleP (by rfl) T.n_tuple bb_tuple (q_acons (q_var 6) q_anil)) q_anil)))))))
theorem ok__law_own_draws (T : Txt K mg base) : FnOk P w K mg base CX0 1 T.f__law_own_draws T.d__law_own_draws P__law_own_draws (sp0 (bagG T) K F__law_own_draws) := by
  refine ok0 (N := N__law_own_draws) T.F__law_own_draws sc__law_own_draws rfl fun cdv A outer s H E hr => ?_
  exact (qs_cons (q_par (i := 2) (j := 3) rfl sc__law_own_draws.nd rfl rfl (by decide) rfl rfl (q_scope (q_callB (cr_sum rfl) oSumP (by rfl) T.n_sum bb_sum (q_acons (q_lc rfl sc__law_own_draws.nd (qi_range1 (by rfl) T.n_range (q_callB call_len oLenP (by rfl) T.n_len PySem.boot_len (q_acons (q_var 0) q_anil))) (blkOk_by (own := [("i", 4)]) (N := N__law_own_draws) (sc := defScope s__law_own_draws) (by decide +kernel)) rfl (fun _ _ _ _ _ => (gw_name (i := 4) (by decide) sc__law_own_draws.nd rfl (Or.inl rfl))) (fun _ _ _ _ _ => qts_nil) (fun _ _ _ _ _ => (q_op op_mulA oMulP (q_ix (q_var 0) (q_var 4) (fun _ _ => rfl)) (q_op op_addX oAddP (q_var 4) q_int)))) q_anil))) (q_lst q_anil) (by rfl))
    (qs_cons (q_for PassesOwn.never rfl (qi_range1 (by rfl) T.n_range (q_var 1)) (g_name (i := 5) sc__law_own_draws.nd rfl (Or.inl rfl))
    (qs_cons (q_set (i := 2) sc__law_own_draws.nd rfl (Or.inl rfl) (q_op op_modN oModP (q_callTy call_int1 oIntP (by rfl) T.n_int bb_int (q_acons (q_op op_addX oAddP (q_op op_addX oAddP (q_op op_mulA oMulP (q_var 2) q_int) q_int) (q_ix (q_var 0) (q_op op_modN oModP (q_callTy call_int1 oIntP (by rfl) T.n_int bb_int (q_acons (q_var 5) q_anil)) (q_callB call_len oLenP (by rfl) T.n_len PySem.boot_len (q_acons (q_var 0) q_anil))) (fun _ _ => rfl))) q_anil)) q_int))
    (qs_one (q_drop (q_append (q_var 3) (q_op op_fdivX oFdivP (q_var 2) q_int))))))
    (qs_one (q_ret (q_callTy call_tuple_of oTupleP (by rfl) T.n_tuple bb_tuple (q_acons (q_var 3) q_anil))))))
theorem ok__law_own_start (T : Txt K mg base) : FnOk P w K mg base CX0 3 T.f__law_own_start T.d__law_own_start P__law_own_start (sp0 (bagG T) K F__law_own_start) := by
  have G__law_own_draws := ok__law_own_draws (P := P) (w := w) (base := base) T
  have G__law_fr := ok__law_fr (P := P) (w := w) (base := base) T
  refine ok0 (N := N__law_own_start) T.F__law_own_start sc__law_own_start rfl fun cdv A outer s H E hr => ?_
  exact (qs_cons (q_par3 (i := 2) (j := 3) (l := 4) rfl sc__law_own_start.nd rfl rfl rfl (by decide) (by decide) (by decide) rfl rfl rfl (q_acons (q_call G__law_own_draws (prom0) (hr.mono (by decide)) (by rfl) T.m__law_own_draws T.F__law_own_draws.kp T.b__law_own_draws (q_acons (q_var 0) (q_acons (q_op op_addX oAddP (q_op op_mulA oMulP q_int (q_var 1)) q_int) q_anil))) (q_acons (q_lst q_anil) (q_acons (q_lst q_anil) q_anil))) (by rfl))
    (qs_cons (q_for PassesOwn.never rfl (qi_range1 (by rfl) T.n_range (q_op op_addX oAddP (q_var 1) q_int)) (g_name (i := 5) sc__law_own_start.nd rfl (Or.inl rfl))
    (qs_cons (q_drop (q_append (q_var 3) (q_call G__law_fr (prom0) (hr.mono (by decide)) (by rfl) T.m__law_fr T.F__law_fr.kp T.b__law_fr (q_acons (q_op op_sub oSubP (q_op op_modN oModP (q_callTy call_int1 oIntP (by rfl) T.n_int bb_int (q_acons (q_ix (q_var 2) (q_op op_mulA oMulP q_int (q_var 5)) (fun _ _ => rfl)) q_anil)) q_int) q_int) (q_acons q_int q_anil)))))
    (qs_one (q_drop (q_append (q_var 4) (q_call G__law_fr (prom0) (hr.mono (by decide)) (by rfl) T.m__law_fr T.F__law_fr.kp T.b__law_fr (q_acons (q_op op_modN oModP (q_callTy call_int1 oIntP (by rfl) T.n_int bb_int (q_acons (q_ix (q_var 2) (q_op op_addX oAddP (q_op op_mulA oMulP q_int (q_var 5)) q_int) (fun _ _ => rfl)) q_anil)) q_int) (q_acons q_int q_anil))))))))
    (qs_one (q_ret (q_tup (q_acons (q_callTy call_tuple_of oTupleP (by rfl) T.n_tuple bb_tuple (q_acons (q_var 3) q_anil)) (q_acons (q_callTy call_tuple_of oTupleP (by rfl) T.n_tuple bb_tuple (q_acons (q_var 4) q_anil)) q_anil)))))))
theorem ok__law_own_hand (T : Txt K mg base) : FnOk P w K mg base CX0 4 T.f__law_own_hand T.d__law_own_hand P__law_own_hand (sp0 (bagG T) K F__law_own_hand) := by
  have G__law_own_draws := ok__law_own_draws (P := P) (w := w) (base := base) T
  have G__law_times := ok__law_times (P := P) (w := w) (base := base) T
  have G__law_fr := ok__law_fr (P := P) (w := w) (base := base) T
  refine ok0 (N := N__law_own_hand) T.F__law_own_hand sc__law_own_hand rfl fun cdv A outer s H E hr => ?_
  exact (qs_cons (q_set (i := 2) sc__law_own_hand.nd rfl (Or.inr rfl) (q_call G__law_own_draws (prom0) (hr.mono (by decide)) (by rfl) T.m__law_own_draws T.F__law_own_draws.kp T.b__law_own_draws (q_acons (q_var 1) (q_acons (q_callB call_len oLenP (by rfl) T.n_len PySem.boot_len (q_acons (q_ix (q_var 0) q_int (fun _ _ => rfl)) q_anil)) q_anil))))
    (qs_one (q_ret (q_scope (q_callTy call_tuple_of oTupleP (by rfl) T.n_tuple bb_tuple (q_acons (q_lc rfl sc__law_own_hand.nd (qi_range1 (by rfl) T.n_range (q_callB call_len oLenP (by rfl) T.n_len PySem.boot_len (q_acons (q_var 2) q_anil))) (blkOk_by (own := [("j", 3)]) (N := N__law_own_hand) (sc := defScope s__law_own_hand) (by decide +kernel)) rfl (fun _ _ _ _ _ => (gw_name (i := 3) (by decide) sc__law_own_hand.nd rfl (Or.inl rfl))) (fun _ _ _ _ _ => qts_nil) (fun _ _ _ _ _ => (q_call G__law_times (prom0) (hr.mono (by decide)) (by rfl) T.m__law_times T.F__law_times.kp T.b__law_times (q_acons (q_ix (q_ix (q_var 0) q_int (fun _ _ => rfl)) (q_var 3) (fun _ _ => rfl)) (q_acons (q_call G__law_fr (prom0) (hr.mono (by decide)) (by rfl) T.m__law_fr T.F__law_fr.kp T.b__law_fr (q_acons (q_op op_sub oSubP (q_op op_modN oModP (q_callTy call_int1 oIntP (by rfl) T.n_int bb_int (q_acons (q_ix (q_var 2) (q_var 3) (fun _ _ => rfl)) q_anil)) q_int) q_int) (q_acons q_int q_anil))) q_anil))))) q_anil))))))
theorem ok__law_own_page (T : Txt K mg base) : FnOk P w K mg base CX0 4 T.f__law_own_page T.d__law_own_page P__law_own_page (sp0 (bagG T) K F__law_own_page) := by
  have G__law_own_draws := ok__law_own_draws (P := P) (w := w) (base := base) T
  have G__law_own_start := ok__law_own_start (P := P) (w := w) (base := base) T
  refine ok0 (N := N__law_own_page) T.F__law_own_page sc__law_own_page rfl fun cdv A outer s H E hr => ?_
  exact (qs_cons (q_set (i := 2) sc__law_own_page.nd rfl (Or.inl rfl) (q_call G__law_own_draws (prom0) (hr.mono (by decide)) (by rfl) T.m__law_own_draws T.F__law_own_draws.kp T.b__law_own_draws (q_acons (q_var 0) (q_acons (q_op op_addX oAddP (q_op op_mulA oMulP q_int (q_var 1)) q_int) q_anil))))
    (qs_one (q_ret (q_tup (q_acons (q_call G__law_own_start (prom0) (hr.mono (by decide)) (by rfl) T.m__law_own_start T.F__law_own_start.kp T.b__law_own_start (q_acons (q_var 0) (q_acons (q_var 1) q_anil))) (q_acons (q_op op_sub oSubP (q_op op_modN oModP (q_callTy call_int1 oIntP (by rfl) T.n_int bb_int (q_acons (q_ix (q_var 2) (q_op op_addX oAddP (q_op op_mulA oMulP q_int (q_var 1)) q_int) (fun _ _ => rfl)) q_anil)) q_int) q_int) (q_acons (q_op op_addX oAddP q_int (q_op op_modN oModP (q_callTy call_int1 oIntP (by rfl) T.n_int bb_int (q_acons (q_ix (q_var 2) (q_op op_addX oAddP (q_op op_mulA oMulP q_int (q_var 1)) q_int) (fun _ _ => rfl)) q_anil)) q_int)) (q_acons q_int (q_acons q_str q_anil)))))))))
theorem ok__law_numbers (T : Txt K mg base) : FnOk P w K mg base CX0 3 T.f__law_numbers T.d__law_numbers P__law_numbers (sp0 (bagG T) K F__law_numbers) := by
  have G__law_pick := ok__law_pick (P := P) (w := w) (base := base) T
  have G__law_draw := ok__law_draw (P := P) (w := w) (base := base) T
  have G__law_ten := ok__law_ten (P := P) (w := w) (base := base) T
  refine ok0 (N := N__law_numbers) T.F__law_numbers sc__law_numbers rfl fun cdv A outer s H E hr => ?_
  exact (qs_one (q_ret (q_scope (q_callTy call_tuple_of oTupleP (by rfl) T.n_tuple bb_tuple (q_acons (q_lc rfl sc__law_numbers.nd (qi_range1 (by rfl) T.n_range (q_call G__law_pick (promS) (hr.mono (by decide)) (by rfl) T.m__law_pick T.F__law_pick.kp T.b__law_pick (q_acons (q_var 0) (q_acons (q_lst (q_acons q_int (q_acons q_int (q_acons q_int (q_acons q_int (q_acons q_int q_anil)))))) q_anil)))) (blkOk_by (own := [("k", 1)]) (N := N__law_numbers) (sc := defScope s__law_numbers) (by decide +kernel)) rfl (fun _ _ _ _ _ => (gw_name (i := 1) (by decide) sc__law_numbers.nd rfl (Or.inl rfl))) (fun _ _ _ _ _ => qts_nil) (fun _ _ _ _ _ => (q_op op_mulA oMulP (q_call G__law_draw (prom0) (hr.mono (by decide)) (by rfl) T.m__law_draw T.F__law_draw.kp T.b__law_draw (q_acons (q_var 0) (q_acons q_int q_anil))) (q_call G__law_pick (promS) (hr.mono (by decide)) (by rfl) T.m__law_pick T.F__law_pick.kp T.b__law_pick (q_acons (q_var 0) (q_acons (q_lst (q_acons q_int (q_acons q_int (q_acons q_int (q_acons (q_call G__law_ten (prom0) (hr.mono (by decide)) (by rfl) T.m__law_ten T.F__law_ten.kp T.b__law_ten (q_acons q_int q_anil)) q_anil))))) q_anil)))))) q_anil)))))
theorem ok_law_body (T : Txt K mg base) (cdv : Value) (A : Around) (outer : List PySem.Env) (s : Shared) (H : Hp) (E : XK) (hr : Room 8 (A.deeper (envOfC "law" (defScope s_law) s.heap.objs.size T.f_law cdv))) : QSs (bagG T) (cxOf CX0 P w K mg base N_law "law" (defScope s_law) T.f_law cdv A outer s H E).nox ((defBody s_law).drop 1) B_law := by
  have G__law_draw := ok__law_draw (P := P) (w := w) (base := base) T
  have G__law_numbers := ok__law_numbers (P := P) (w := w) (base := base) T
  have G__law_own_draws := ok__law_own_draws (P := P) (w := w) (base := base) T
  have G__law_same := ok__law_same (P := P) (w := w) (base := base) T
  have G_draws := ok_draws (P := P) (w := w) (base := base) T
  have G__law_own_start := ok__law_own_start (P := P) (w := w) (base := base) T
  have G_drawn_start := ok_drawn_start (P := P) (w := w) (base := base) T
  have G__law_start := ok__law_start (P := P) (w := w) (base := base) T
  have G__law_own_hand := ok__law_own_hand (P := P) (w := w) (base := base) T
  have G__law_is_hand := ok__law_is_hand (P := P) (w := w) (base := base) T
  have G_drawn_hand := ok_drawn_hand (P := P) (w := w) (base := base) T
  have G__law_own_page := ok__law_own_page (P := P) (w := w) (base := base) T
  have G_drawn_page := ok_drawn_page (P := P) (w := w) (base := base) T
  exact (qs_cons (q_for PassesOwn.never rfl (qi_range1 (by rfl) T.n_range q_int) (g_name (i := 2) sc_law.nd rfl (Or.inl rfl))
    (qs_cons (q_asg (q_tup (q_acons (q_call G__law_numbers (prom0) (hr.mono (by decide)) (by rfl) T.m__law_numbers T.F__law_numbers.kp T.b__law_numbers (q_acons (q_var 1) q_anil)) (q_acons (q_call G__law_numbers (prom0) (hr.mono (by decide)) (by rfl) T.m__law_numbers T.F__law_numbers.kp T.b__law_numbers (q_acons (q_var 1) q_anil)) (q_acons (q_call G__law_draw (prom0) (hr.mono (by decide)) (by rfl) T.m__law_draw T.F__law_draw.kp T.b__law_draw (q_acons (q_var 1) (q_acons q_int q_anil))) (q_acons (q_call G__law_draw (prom0) (hr.mono (by decide)) (by rfl) T.m__law_draw T.F__law_draw.kp T.b__law_draw (q_acons (q_var 1) (q_acons q_int q_anil))) q_anil))))) (g_tup rfl (g_cons (g_name (i := 3) sc_law.nd rfl (Or.inl rfl)) (g_cons (g_name (i := 4) sc_law.nd rfl (Or.inl rfl)) (g_cons (g_name (i := 5) sc_law.nd rfl (Or.inl rfl)) (g_cons (g_name (i := 6) sc_law.nd rfl (Or.inl rfl)) g_nil))))))
    (qs_cons (q_set (i := 7) sc_law.nd rfl (Or.inl rfl) (q_call G__law_own_draws (prom0) (hr.mono (by decide)) (by rfl) T.m__law_own_draws T.F__law_own_draws.kp T.b__law_own_draws (q_acons (q_var 3) (q_acons (q_var 6) q_anil))))
    (qs_cons (q_ifS (qt_not (qt_truth (q_call G__law_same (prom0) (hr.mono (by decide)) (by rfl) T.m__law_same T.F__law_same.kp T.b__law_same (q_acons (q_tup (q_acons (q_call G_draws (prom0) (hr.mono (by decide)) (by rfl) T.m_draws T.F_draws.kp T.b_draws (q_acons (q_var 3) (q_acons (q_var 6) q_anil))) (q_acons (q_callK0 (m := 2) G_draws (prom0) (hr.mono (by decide)) (by rfl) T.m_draws T.F_draws.kp T.kb_draws_0 rfl (q_kcons (q_var 6) (q_kcons (q_var 3) q_knil))) q_anil))) (q_acons (q_tup (q_acons (q_var 7) (q_acons (q_var 7) q_anil))) q_anil))))) (qs_one (q_ret q_bl)) qs_nil)
    (qs_cons (q_set (i := 7) sc_law.nd rfl (Or.inl rfl) (q_call G__law_own_start (prom0) (hr.mono (by decide)) (by rfl) T.m__law_own_start T.F__law_own_start.kp T.b__law_own_start (q_acons (q_var 3) (q_acons (q_var 5) q_anil))))
    (qs_cons (q_ifS (qt_not (qt_truth (q_call G__law_same (prom0) (hr.mono (by decide)) (by rfl) T.m__law_same T.F__law_same.kp T.b__law_same (q_acons (q_tup (q_acons (q_call G_drawn_start (prom0) (hr.mono (by decide)) (by rfl) T.m_drawn_start T.F_drawn_start.kp T.b_drawn_start (q_acons (q_var 3) (q_acons (q_var 5) q_anil))) (q_acons (q_callK0 (m := 2) G_drawn_start (prom0) (hr.mono (by decide)) (by rfl) T.m_drawn_start T.F_drawn_start.kp T.kb_drawn_start_0 rfl (q_kcons (q_var 5) (q_kcons (q_var 3) q_knil))) q_anil))) (q_acons (q_tup (q_acons (q_var 7) (q_acons (q_var 7) q_anil))) q_anil))))) (qs_one (q_ret q_bl)) qs_nil)
    (qs_cons (q_set (i := 8) sc_law.nd rfl (Or.inl rfl) (q_if (qt_cmp op_eq oEqP (q_call G__law_draw (prom0) (hr.mono (by decide)) (by rfl) T.m__law_draw T.F__law_draw.kp T.b__law_draw (q_acons (q_var 1) (q_acons q_int q_anil))) q_int (nomark _)) (q_var 7) (q_call G__law_start (prom0) (hr.mono (by decide)) (by rfl) T.m__law_start T.F__law_start.kp T.b__law_start (q_acons (q_var 1) (q_acons (q_var 5) (q_acons q_int (q_acons q_int q_anil)))))))
    (qs_cons (q_set (i := 7) sc_law.nd rfl (Or.inl rfl) (q_call G__law_own_hand (prom0) (hr.mono (by decide)) (by rfl) T.m__law_own_hand T.F__law_own_hand.kp T.b__law_own_hand (q_acons (q_var 8) (q_acons (q_var 4) q_anil))))
    (qs_cons (q_ifS (QW.qt (qw_or (qt_not (qt_truth (q_call G__law_is_hand (prom0) (hr.mono (by decide)) (by rfl) T.m__law_is_hand T.F__law_is_hand.kp T.b__law_is_hand (q_acons (q_var 8) (q_acons (q_var 7) q_anil))))) (qw_or1 (qt_not (qt_truth (q_call G__law_same (prom0) (hr.mono (by decide)) (by rfl) T.m__law_same T.F__law_same.kp T.b__law_same (q_acons (q_tup (q_acons (q_call G_drawn_hand (prom0) (hr.mono (by decide)) (by rfl) T.m_drawn_hand T.F_drawn_hand.kp T.b_drawn_hand (q_acons (q_var 8) (q_acons (q_var 4) q_anil))) (q_acons (q_callK0 (m := 2) G_drawn_hand (prom0) (hr.mono (by decide)) (by rfl) T.m_drawn_hand T.F_drawn_hand.kp T.kb_drawn_hand_0 rfl (q_kcons (q_var 4) (q_kcons (q_var 8) q_knil))) q_anil))) (q_acons (q_tup (q_acons (q_var 7) (q_acons (q_var 7) q_anil))) q_anil)))))))) (qs_one (q_ret q_bl)) qs_nil)
    (qs_cons (q_set (i := 7) sc_law.nd rfl (Or.inl rfl) (q_call G__law_own_page (prom0) (hr.mono (by decide)) (by rfl) T.m__law_own_page T.F__law_own_page.kp T.b__law_own_page (q_acons (q_var 3) (q_acons (q_var 5) q_anil))))
    (qs_one (q_ifS (qt_not (qt_truth (q_call G__law_same (prom0) (hr.mono (by decide)) (by rfl) T.m__law_same T.F__law_same.kp T.b__law_same (q_acons (q_tup (q_acons (q_call G_drawn_page (prom0) (hr.mono (by decide)) (by rfl) T.m_drawn_page T.F_drawn_page.kp T.b_drawn_page (q_acons (q_var 3) (q_acons (q_var 5) q_anil))) (q_acons (q_callK0 (m := 2) G_drawn_page (prom0) (hr.mono (by decide)) (by rfl) T.m_drawn_page T.F_drawn_page.kp T.kb_drawn_page_0 rfl (q_kcons (q_var 5) (q_kcons (q_var 3) q_knil))) q_anil))) (q_acons (q_tup (q_acons (q_var 7) (q_acons (q_var 7) q_anil))) q_anil))))) (qs_one (q_ret q_bl)) qs_nil))))))))))))
    (qs_one (q_ret q_bl)))
end
def txt_mk {K : PySem.W.Frag} {h : Heap} {mg : Str → Option Value} (X : K.In h) (G : h.Ns mainGlobals mg) (base : Heap)
    {C_Drawer : Addr} (aC_Drawer : PySem.W.nsIn K mainGlobals "Drawer" = some (some (.ref C_Drawer))) (pg_Drawer : PySem.W.plainGet K C_Drawer Str.empty = true) (hd_Drawer : PySem.W.hasDictIn K C_Drawer = true) (po_Drawer : PySem.W.plainOver K C_Drawer = true) (sa_Drawer : PySem.W.findIn K (.ref C_Drawer) "__setattr__" = some (some (.builtin "object.__setattr__")))
    (nf0_Drawer : PySem.W.findIn K (.ref C_Drawer) "numbers" = some none)
    (nf1_Drawer : PySem.W.findIn K (.ref C_Drawer) "place" = some none)
    (nf2_Drawer : PySem.W.findIn K (.ref C_Drawer) "state" = some none)
    (mk_Drawer : PySem.W.makesIn K C_Drawer = true) (kc_Drawer : PySem.W.keepIn K (.ref C_Drawer) = true)
    {f_0 : Addr} {oc_0 kV_0 dc_0 pm_0 cd_0 ct_0 : Value} {od_0 an_0 : Option Addr} {sl_0 : Array (Option Value)}
    (a_0 : PySem.W.nsIn K mainGlobals "frac" = some (some (.ref f_0))) (l_0 : K.lookup f_0 = some ⟨oc_0, od_0, .func (PySem.W.fnOf "frac" "frac" (defArgs s_frac) (defBody s_frac) (defScope s_frac) .none kV_0 dc_0 pm_0 an_0 cd_0 ct_0), sl_0⟩) (c_0 : PySem.W.codeIn K cd_0 "frac" = true) (k_0 : PySem.W.keepIn K (.ref f_0) = true)
    {f_1 : Addr} {oc_1 kV_1 dc_1 pm_1 cd_1 ct_1 : Value} {od_1 an_1 : Option Addr} {sl_1 : Array (Option Value)}
    (a_1 : PySem.W.nsIn K mainGlobals "times" = some (some (.ref f_1))) (l_1 : K.lookup f_1 = some ⟨oc_1, od_1, .func (PySem.W.fnOf "times" "times" (defArgs s_times) (defBody s_times) (defScope s_times) .none kV_1 dc_1 pm_1 an_1 cd_1 ct_1), sl_1⟩) (c_1 : PySem.W.codeIn K cd_1 "times" = true) (k_1 : PySem.W.keepIn K (.ref f_1) = true)
    {f_2 : Addr} {oc_2 kV_2 dc_2 pm_2 ct_2 : Value} {od_2 an_2 : Option Addr} {sl_2 : Array (Option Value)} {tc_2 tp_2 : Addr} {ec_2 : Value} {dd_2 : Option Addr} {vs_2 : Array Value} {sc_2 : Array (Option Value)}
    (a_2 : PySem.W.findIn K (.ref C_Drawer) "__init__" = some (some (.ref f_2))) (i_2 : PySem.W.isFn K (.ref f_2) = true) (l_2 : K.lookup f_2 = some ⟨oc_2, od_2, .func (PySem.W.fnOf "__init__" "Drawer.__init__" (defArgs s_Drawer_M_init) (defBody s_Drawer_M_init) (defScope s_Drawer_M_init) .none kV_2 dc_2 pm_2 an_2 (.ref tc_2) ct_2), sl_2⟩) (c_2 : PySem.W.codeIn K (.ref tc_2) "Drawer.__init__" = true) (k_2 : PySem.W.keepIn K (.ref f_2) = true)
    (cc_2 : K.lookup tc_2 = some ⟨ec_2, dd_2, .fields vs_2, sc_2⟩) (cp_2 : vs_2[11]? = some (.ref tp_2)) (ch_2 : PySem.W.codeHdIn K tc_2 tp_2 = true) (cn_2 : K.lookup tp_2 = none)
    {f_3 : Addr} {oc_3 kV_3 dc_3 pm_3 cd_3 ct_3 : Value} {od_3 an_3 : Option Addr} {sl_3 : Array (Option Value)}
    (a_3 : PySem.W.findIn K (.ref C_Drawer) "draw" = some (some (.ref f_3))) (i_3 : PySem.W.isFn K (.ref f_3) = true) (l_3 : K.lookup f_3 = some ⟨oc_3, od_3, .func (PySem.W.fnOf "draw" "Drawer.draw" (defArgs s_Drawer_M_draw) (defBody s_Drawer_M_draw) (defScope s_Drawer_M_draw) .none kV_3 dc_3 pm_3 an_3 cd_3 ct_3), sl_3⟩) (c_3 : PySem.W.codeIn K cd_3 "Drawer.draw" = true) (k_3 : PySem.W.keepIn K (.ref f_3) = true)
    {f_4 : Addr} {oc_4 kV_4 dc_4 pm_4 cd_4 ct_4 : Value} {od_4 an_4 : Option Addr} {sl_4 : Array (Option Value)}
    (a_4 : PySem.W.nsIn K mainGlobals "draws" = some (some (.ref f_4))) (l_4 : K.lookup f_4 = some ⟨oc_4, od_4, .func (PySem.W.fnOf "draws" "draws" (defArgs s_draws) (defBody s_draws) (defScope s_draws) .none kV_4 dc_4 pm_4 an_4 cd_4 ct_4), sl_4⟩) (c_4 : PySem.W.codeIn K cd_4 "draws" = true) (k_4 : PySem.W.keepIn K (.ref f_4) = true)
    {f_5 : Addr} {oc_5 kV_5 dc_5 pm_5 cd_5 ct_5 : Value} {od_5 an_5 : Option Addr} {sl_5 : Array (Option Value)}
    (a_5 : PySem.W.nsIn K mainGlobals "start_by" = some (some (.ref f_5))) (l_5 : K.lookup f_5 = some ⟨oc_5, od_5, .func (PySem.W.fnOf "start_by" "start_by" (defArgs s_start_by) (defBody s_start_by) (defScope s_start_by) .none kV_5 dc_5 pm_5 an_5 cd_5 ct_5), sl_5⟩) (c_5 : PySem.W.codeIn K cd_5 "start_by" = true) (k_5 : PySem.W.keepIn K (.ref f_5) = true)
    {f_6 : Addr} {oc_6 kV_6 dc_6 pm_6 cd_6 ct_6 : Value} {od_6 an_6 : Option Addr} {sl_6 : Array (Option Value)}
    (a_6 : PySem.W.nsIn K mainGlobals "drawn_start" = some (some (.ref f_6))) (l_6 : K.lookup f_6 = some ⟨oc_6, od_6, .func (PySem.W.fnOf "drawn_start" "drawn_start" (defArgs s_drawn_start) (defBody s_drawn_start) (defScope s_drawn_start) .none kV_6 dc_6 pm_6 an_6 cd_6 ct_6), sl_6⟩) (c_6 : PySem.W.codeIn K cd_6 "drawn_start" = true) (k_6 : PySem.W.keepIn K (.ref f_6) = true)
    {f_7 : Addr} {oc_7 kV_7 dc_7 pm_7 cd_7 ct_7 : Value} {od_7 an_7 : Option Addr} {sl_7 : Array (Option Value)}
    (a_7 : PySem.W.nsIn K mainGlobals "drawn_hand" = some (some (.ref f_7))) (l_7 : K.lookup f_7 = some ⟨oc_7, od_7, .func (PySem.W.fnOf "drawn_hand" "drawn_hand" (defArgs s_drawn_hand) (defBody s_drawn_hand) (defScope s_drawn_hand) .none kV_7 dc_7 pm_7 an_7 cd_7 ct_7), sl_7⟩) (c_7 : PySem.W.codeIn K cd_7 "drawn_hand" = true) (k_7 : PySem.W.keepIn K (.ref f_7) = true)
    {f_8 : Addr} {oc_8 kV_8 dc_8 pm_8 cd_8 ct_8 : Value} {od_8 an_8 : Option Addr} {sl_8 : Array (Option Value)}
    (a_8 : PySem.W.nsIn K mainGlobals "drawn_page" = some (some (.ref f_8))) (l_8 : K.lookup f_8 = some ⟨oc_8, od_8, .func (PySem.W.fnOf "drawn_page" "drawn_page" (defArgs s_drawn_page) (defBody s_drawn_page) (defScope s_drawn_page) .none kV_8 dc_8 pm_8 an_8 cd_8 ct_8), sl_8⟩) (c_8 : PySem.W.codeIn K cd_8 "drawn_page" = true) (k_8 : PySem.W.keepIn K (.ref f_8) = true)
    {f_9 : Addr} {oc_9 kV_9 dc_9 pm_9 cd_9 ct_9 : Value} {od_9 an_9 : Option Addr} {sl_9 : Array (Option Value)}
    (a_9 : PySem.W.nsIn K mainGlobals "_law_bag" = some (some (.ref f_9))) (l_9 : K.lookup f_9 = some ⟨oc_9, od_9, .func (PySem.W.fnOf "_law_bag" "_law_bag" (defArgs s__law_bag) (defBody s__law_bag) (defScope s__law_bag) .none kV_9 dc_9 pm_9 an_9 cd_9 ct_9), sl_9⟩) (c_9 : PySem.W.codeIn K cd_9 "_law_bag" = true) (k_9 : PySem.W.keepIn K (.ref f_9) = true)
    {f_10 : Addr} {oc_10 kV_10 dc_10 pm_10 cd_10 ct_10 : Value} {od_10 an_10 : Option Addr} {sl_10 : Array (Option Value)}
    (a_10 : PySem.W.nsIn K mainGlobals "_law_draw" = some (some (.ref f_10))) (l_10 : K.lookup f_10 = some ⟨oc_10, od_10, .func (PySem.W.fnOf "_law_draw" "_law_draw" (defArgs s__law_draw) (defBody s__law_draw) (defScope s__law_draw) .none kV_10 dc_10 pm_10 an_10 cd_10 ct_10), sl_10⟩) (c_10 : PySem.W.codeIn K cd_10 "_law_draw" = true) (k_10 : PySem.W.keepIn K (.ref f_10) = true)
    {f_11 : Addr} {oc_11 kV_11 dc_11 pm_11 cd_11 ct_11 : Value} {od_11 an_11 : Option Addr} {sl_11 : Array (Option Value)}
    (a_11 : PySem.W.nsIn K mainGlobals "_law_pick" = some (some (.ref f_11))) (l_11 : K.lookup f_11 = some ⟨oc_11, od_11, .func (PySem.W.fnOf "_law_pick" "_law_pick" (defArgs s__law_pick) (defBody s__law_pick) (defScope s__law_pick) .none kV_11 dc_11 pm_11 an_11 cd_11 ct_11), sl_11⟩) (c_11 : PySem.W.codeIn K cd_11 "_law_pick" = true) (k_11 : PySem.W.keepIn K (.ref f_11) = true)
    {f_12 : Addr} {oc_12 kV_12 dc_12 pm_12 cd_12 ct_12 : Value} {od_12 an_12 : Option Addr} {sl_12 : Array (Option Value)}
    (a_12 : PySem.W.nsIn K mainGlobals "_law_same" = some (some (.ref f_12))) (l_12 : K.lookup f_12 = some ⟨oc_12, od_12, .func (PySem.W.fnOf "_law_same" "_law_same" (defArgs s__law_same) (defBody s__law_same) (defScope s__law_same) .none kV_12 dc_12 pm_12 an_12 cd_12 ct_12), sl_12⟩) (c_12 : PySem.W.codeIn K cd_12 "_law_same" = true) (k_12 : PySem.W.keepIn K (.ref f_12) = true)
    {f_13 : Addr} {oc_13 kV_13 dc_13 pm_13 cd_13 ct_13 : Value} {od_13 an_13 : Option Addr} {sl_13 : Array (Option Value)}
    (a_13 : PySem.W.nsIn K mainGlobals "_law_gcd" = some (some (.ref f_13))) (l_13 : K.lookup f_13 = some ⟨oc_13, od_13, .func (PySem.W.fnOf "_law_gcd" "_law_gcd" (defArgs s__law_gcd) (defBody s__law_gcd) (defScope s__law_gcd) .none kV_13 dc_13 pm_13 an_13 cd_13 ct_13), sl_13⟩) (c_13 : PySem.W.codeIn K cd_13 "_law_gcd" = true) (k_13 : PySem.W.keepIn K (.ref f_13) = true)
    {f_14 : Addr} {oc_14 kV_14 dc_14 pm_14 cd_14 ct_14 : Value} {od_14 an_14 : Option Addr} {sl_14 : Array (Option Value)}
    (a_14 : PySem.W.nsIn K mainGlobals "_law_fr" = some (some (.ref f_14))) (l_14 : K.lookup f_14 = some ⟨oc_14, od_14, .func (PySem.W.fnOf "_law_fr" "_law_fr" (defArgs s__law_fr) (defBody s__law_fr) (defScope s__law_fr) .none kV_14 dc_14 pm_14 an_14 cd_14 ct_14), sl_14⟩) (c_14 : PySem.W.codeIn K cd_14 "_law_fr" = true) (k_14 : PySem.W.keepIn K (.ref f_14) = true)
    {f_15 : Addr} {oc_15 kV_15 dc_15 pm_15 cd_15 ct_15 : Value} {od_15 an_15 : Option Addr} {sl_15 : Array (Option Value)}
    (a_15 : PySem.W.nsIn K mainGlobals "_law_times" = some (some (.ref f_15))) (l_15 : K.lookup f_15 = some ⟨oc_15, od_15, .func (PySem.W.fnOf "_law_times" "_law_times" (defArgs s__law_times) (defBody s__law_times) (defScope s__law_times) .none kV_15 dc_15 pm_15 an_15 cd_15 ct_15), sl_15⟩) (c_15 : PySem.W.codeIn K cd_15 "_law_times" = true) (k_15 : PySem.W.keepIn K (.ref f_15) = true)
    {f_16 : Addr} {oc_16 kV_16 dc_16 pm_16 cd_16 ct_16 : Value} {od_16 an_16 : Option Addr} {sl_16 : Array (Option Value)}
    (a_16 : PySem.W.nsIn K mainGlobals "_law_less" = some (some (.ref f_16))) (l_16 : K.lookup f_16 = some ⟨oc_16, od_16, .func (PySem.W.fnOf "_law_less" "_law_less" (defArgs s__law_less) (defBody s__law_less) (defScope s__law_less) .none kV_16 dc_16 pm_16 an_16 cd_16 ct_16), sl_16⟩) (c_16 : PySem.W.codeIn K cd_16 "_law_less" = true) (k_16 : PySem.W.keepIn K (.ref f_16) = true)
    {f_17 : Addr} {oc_17 kV_17 dc_17 pm_17 cd_17 ct_17 : Value} {od_17 an_17 : Option Addr} {sl_17 : Array (Option Value)}
    (a_17 : PySem.W.nsIn K mainGlobals "_law_ten" = some (some (.ref f_17))) (l_17 : K.lookup f_17 = some ⟨oc_17, od_17, .func (PySem.W.fnOf "_law_ten" "_law_ten" (defArgs s__law_ten) (defBody s__law_ten) (defScope s__law_ten) .none kV_17 dc_17 pm_17 an_17 cd_17 ct_17), sl_17⟩) (c_17 : PySem.W.codeIn K cd_17 "_law_ten" = true) (k_17 : PySem.W.keepIn K (.ref f_17) = true)
    {f_18 : Addr} {oc_18 kV_18 dc_18 pm_18 cd_18 ct_18 : Value} {od_18 an_18 : Option Addr} {sl_18 : Array (Option Value)}
    (a_18 : PySem.W.nsIn K mainGlobals "_law_is_whole" = some (some (.ref f_18))) (l_18 : K.lookup f_18 = some ⟨oc_18, od_18, .func (PySem.W.fnOf "_law_is_whole" "_law_is_whole" (defArgs s__law_is_whole) (defBody s__law_is_whole) (defScope s__law_is_whole) .none kV_18 dc_18 pm_18 an_18 cd_18 ct_18), sl_18⟩) (c_18 : PySem.W.codeIn K cd_18 "_law_is_whole" = true) (k_18 : PySem.W.keepIn K (.ref f_18) = true)
    {f_19 : Addr} {oc_19 kV_19 dc_19 pm_19 cd_19 ct_19 : Value} {od_19 an_19 : Option Addr} {sl_19 : Array (Option Value)}
    (a_19 : PySem.W.nsIn K mainGlobals "_law_is_fraction" = some (some (.ref f_19))) (l_19 : K.lookup f_19 = some ⟨oc_19, od_19, .func (PySem.W.fnOf "_law_is_fraction" "_law_is_fraction" (defArgs s__law_is_fraction) (defBody s__law_is_fraction) (defScope s__law_is_fraction) .none kV_19 dc_19 pm_19 an_19 cd_19 ct_19), sl_19⟩) (c_19 : PySem.W.codeIn K cd_19 "_law_is_fraction" = true) (k_19 : PySem.W.keepIn K (.ref f_19) = true)
    {f_20 : Addr} {oc_20 kV_20 dc_20 pm_20 cd_20 ct_20 : Value} {od_20 an_20 : Option Addr} {sl_20 : Array (Option Value)}
    (a_20 : PySem.W.nsIn K mainGlobals "_law_is_hand" = some (some (.ref f_20))) (l_20 : K.lookup f_20 = some ⟨oc_20, od_20, .func (PySem.W.fnOf "_law_is_hand" "_law_is_hand" (defArgs s__law_is_hand) (defBody s__law_is_hand) (defScope s__law_is_hand) .none kV_20 dc_20 pm_20 an_20 cd_20 ct_20), sl_20⟩) (c_20 : PySem.W.codeIn K cd_20 "_law_is_hand" = true) (k_20 : PySem.W.keepIn K (.ref f_20) = true)
    {f_21 : Addr} {oc_21 kV_21 dc_21 pm_21 cd_21 ct_21 : Value} {od_21 an_21 : Option Addr} {sl_21 : Array (Option Value)}
    (a_21 : PySem.W.nsIn K mainGlobals "_law_half" = some (some (.ref f_21))) (l_21 : K.lookup f_21 = some ⟨oc_21, od_21, .func (PySem.W.fnOf "_law_half" "_law_half" (defArgs s__law_half) (defBody s__law_half) (defScope s__law_half) .none kV_21 dc_21 pm_21 an_21 cd_21 ct_21), sl_21⟩) (c_21 : PySem.W.codeIn K cd_21 "_law_half" = true) (k_21 : PySem.W.keepIn K (.ref f_21) = true)
    {f_22 : Addr} {oc_22 kV_22 dc_22 pm_22 cd_22 ct_22 : Value} {od_22 an_22 : Option Addr} {sl_22 : Array (Option Value)}
    (a_22 : PySem.W.nsIn K mainGlobals "_law_start" = some (some (.ref f_22))) (l_22 : K.lookup f_22 = some ⟨oc_22, od_22, .func (PySem.W.fnOf "_law_start" "_law_start" (defArgs s__law_start) (defBody s__law_start) (defScope s__law_start) .none kV_22 dc_22 pm_22 an_22 cd_22 ct_22), sl_22⟩) (c_22 : PySem.W.codeIn K cd_22 "_law_start" = true) (k_22 : PySem.W.keepIn K (.ref f_22) = true)
    {f_23 : Addr} {oc_23 kV_23 dc_23 pm_23 cd_23 ct_23 : Value} {od_23 an_23 : Option Addr} {sl_23 : Array (Option Value)}
    (a_23 : PySem.W.nsIn K mainGlobals "_law_own_draws" = some (some (.ref f_23))) (l_23 : K.lookup f_23 = some ⟨oc_23, od_23, .func (PySem.W.fnOf "_law_own_draws" "_law_own_draws" (defArgs s__law_own_draws) (defBody s__law_own_draws) (defScope s__law_own_draws) .none kV_23 dc_23 pm_23 an_23 cd_23 ct_23), sl_23⟩) (c_23 : PySem.W.codeIn K cd_23 "_law_own_draws" = true) (k_23 : PySem.W.keepIn K (.ref f_23) = true)
    {f_24 : Addr} {oc_24 kV_24 dc_24 pm_24 cd_24 ct_24 : Value} {od_24 an_24 : Option Addr} {sl_24 : Array (Option Value)}
    (a_24 : PySem.W.nsIn K mainGlobals "_law_own_start" = some (some (.ref f_24))) (l_24 : K.lookup f_24 = some ⟨oc_24, od_24, .func (PySem.W.fnOf "_law_own_start" "_law_own_start" (defArgs s__law_own_start) (defBody s__law_own_start) (defScope s__law_own_start) .none kV_24 dc_24 pm_24 an_24 cd_24 ct_24), sl_24⟩) (c_24 : PySem.W.codeIn K cd_24 "_law_own_start" = true) (k_24 : PySem.W.keepIn K (.ref f_24) = true)
    {f_25 : Addr} {oc_25 kV_25 dc_25 pm_25 cd_25 ct_25 : Value} {od_25 an_25 : Option Addr} {sl_25 : Array (Option Value)}
    (a_25 : PySem.W.nsIn K mainGlobals "_law_own_hand" = some (some (.ref f_25))) (l_25 : K.lookup f_25 = some ⟨oc_25, od_25, .func (PySem.W.fnOf "_law_own_hand" "_law_own_hand" (defArgs s__law_own_hand) (defBody s__law_own_hand) (defScope s__law_own_hand) .none kV_25 dc_25 pm_25 an_25 cd_25 ct_25), sl_25⟩) (c_25 : PySem.W.codeIn K cd_25 "_law_own_hand" = true) (k_25 : PySem.W.keepIn K (.ref f_25) = true)
    {f_26 : Addr} {oc_26 kV_26 dc_26 pm_26 cd_26 ct_26 : Value} {od_26 an_26 : Option Addr} {sl_26 : Array (Option Value)}
    (a_26 : PySem.W.nsIn K mainGlobals "_law_own_page" = some (some (.ref f_26))) (l_26 : K.lookup f_26 = some ⟨oc_26, od_26, .func (PySem.W.fnOf "_law_own_page" "_law_own_page" (defArgs s__law_own_page) (defBody s__law_own_page) (defScope s__law_own_page) .none kV_26 dc_26 pm_26 an_26 cd_26 ct_26), sl_26⟩) (c_26 : PySem.W.codeIn K cd_26 "_law_own_page" = true) (k_26 : PySem.W.keepIn K (.ref f_26) = true)
    {f_27 : Addr} {oc_27 kV_27 dc_27 pm_27 cd_27 ct_27 : Value} {od_27 an_27 : Option Addr} {sl_27 : Array (Option Value)}
    (a_27 : PySem.W.nsIn K mainGlobals "_law_numbers" = some (some (.ref f_27))) (l_27 : K.lookup f_27 = some ⟨oc_27, od_27, .func (PySem.W.fnOf "_law_numbers" "_law_numbers" (defArgs s__law_numbers) (defBody s__law_numbers) (defScope s__law_numbers) .none kV_27 dc_27 pm_27 an_27 cd_27 ct_27), sl_27⟩) (c_27 : PySem.W.codeIn K cd_27 "_law_numbers" = true) (k_27 : PySem.W.keepIn K (.ref f_27) = true)
    {f_28 : Addr} {oc_28 kV_28 dc_28 pm_28 cd_28 ct_28 : Value} {od_28 an_28 : Option Addr} {sl_28 : Array (Option Value)}
    (a_28 : PySem.W.nsIn K mainGlobals "law" = some (some (.ref f_28))) (l_28 : K.lookup f_28 = some ⟨oc_28, od_28, .func (PySem.W.fnOf "law" "law" (defArgs s_law) (defBody s_law) (defScope s_law) .none kV_28 dc_28 pm_28 an_28 cd_28 ct_28), sl_28⟩) (c_28 : PySem.W.codeIn K cd_28 "law" = true) (k_28 : PySem.W.keepIn K (.ref f_28) = true)
    (z_abs : PySem.W.nsIn K mainGlobals "abs" = some none)
    (z_bool : PySem.W.nsIn K mainGlobals "bool" = some none)
    (z_enumerate : PySem.W.nsIn K mainGlobals "enumerate" = some none)
    (z_int : PySem.W.nsIn K mainGlobals "int" = some none)
    (z_isinstance : PySem.W.nsIn K mainGlobals "isinstance" = some none)
    (z_len : PySem.W.nsIn K mainGlobals "len" = some none)
    (z_range : PySem.W.nsIn K mainGlobals "range" = some none)
    (z_str : PySem.W.nsIn K mainGlobals "str" = some none)
    (z_sum : PySem.W.nsIn K mainGlobals "sum" = some none)
    (z_tuple : PySem.W.nsIn K mainGlobals "tuple" = some none)
    {t_CUT : Tok} (q_CUT : PySem.W.nsIn K mainGlobals "CUT" = some (some (.int 65536 t_CUT)))
    {t_FACTOR : Tok} (q_FACTOR : PySem.W.nsIn K mainGlobals "FACTOR" = some (some (.int 1103515245 t_FACTOR)))
    {t_MORE : Tok} (q_MORE : PySem.W.nsIn K mainGlobals "MORE" = some (some (.int 12345 t_MORE)))
    {t_ROUND : Tok} (q_ROUND : PySem.W.nsIn K mainGlobals "ROUND" = some (some (.int 2147483648 t_ROUND)))
    (q_gcd : PySem.W.nsIn K mainGlobals "gcd" = some (some (.builtin "math.gcd")))
    (TB : ∀ p ∈ ([(tc_2, tp_2)] : List (Addr × Addr)), LamX.TabB base mg p.1 p.2) : Txt K mg base where
  C_Drawer := C_Drawer
  T_Drawer := ⟨⟨pg_Drawer, hd_Drawer, po_Drawer, sa_Drawer⟩, aC_Drawer, List.forall_mem_cons.mpr ⟨nf0_Drawer, List.forall_mem_cons.mpr ⟨nf1_Drawer, List.forall_mem_cons.mpr ⟨nf2_Drawer, fun _ h => nomatch h⟩⟩⟩, by decide +kernel, by decide⟩
  mC_Drawer := PySem.W.mg_of X G aC_Drawer
  f_frac := f_0
  d_frac := PySem.W.fnOf "frac" "frac" (defArgs s_frac) (defBody s_frac) (defScope s_frac) .none kV_0 dc_0 pm_0 an_0 cd_0 ct_0
  F_frac := fun_mk (st := s_frac) l_0 c_0 k_0
  m_frac := PySem.W.mg_of X G a_0
  b_frac := (fun_mk (st := s_frac) l_0 c_0 k_0).binds fun _ _ _ _ _ _ us hl => match us, hl with | [_, _], _ => rfl
  f_times := f_1
  d_times := PySem.W.fnOf "times" "times" (defArgs s_times) (defBody s_times) (defScope s_times) .none kV_1 dc_1 pm_1 an_1 cd_1 ct_1
  F_times := fun_mk (st := s_times) l_1 c_1 k_1
  m_times := PySem.W.mg_of X G a_1
  b_times := (fun_mk (st := s_times) l_1 c_1 k_1).binds fun _ _ _ _ _ _ us hl => match us, hl with | [_, _], _ => rfl
  f_Drawer_M_init := f_2
  d_Drawer_M_init := PySem.W.fnOf "__init__" "Drawer.__init__" (defArgs s_Drawer_M_init) (defBody s_Drawer_M_init) (defScope s_Drawer_M_init) .none kV_2 dc_2 pm_2 an_2 (.ref tc_2) ct_2
  tc_Drawer_M_init := tc_2
  tp_Drawer_M_init := tp_2
  cd_Drawer_M_init := rfl
  tb_Drawer_M_init := tabB_gx (TB _ (List.Mem.head _))
  F_Drawer_M_init := fun_mk (st := s_Drawer_M_init) l_2 c_2 k_2
  MK_Drawer := ⟨mk_Drawer, a_2, i_2, kc_Drawer⟩
  b_Drawer_M_init := (fun_mk (st := s_Drawer_M_init) l_2 c_2 k_2).binds fun _ _ _ _ _ _ us hl => match us, hl with | [_, _], _ => rfl
  f_Drawer_M_draw := f_3
  d_Drawer_M_draw := PySem.W.fnOf "draw" "Drawer.draw" (defArgs s_Drawer_M_draw) (defBody s_Drawer_M_draw) (defScope s_Drawer_M_draw) .none kV_3 dc_3 pm_3 an_3 cd_3 ct_3
  F_Drawer_M_draw := fun_mk (st := s_Drawer_M_draw) l_3 c_3 k_3
  ME_Drawer_M_draw := ⟨a_3, i_3, k_3⟩
  b_Drawer_M_draw := (fun_mk (st := s_Drawer_M_draw) l_3 c_3 k_3).binds fun _ _ _ _ _ _ us hl => match us, hl with | [_], _ => rfl
  f_draws := f_4
  d_draws := PySem.W.fnOf "draws" "draws" (defArgs s_draws) (defBody s_draws) (defScope s_draws) .none kV_4 dc_4 pm_4 an_4 cd_4 ct_4
  F_draws := fun_mk (st := s_draws) l_4 c_4 k_4
  m_draws := PySem.W.mg_of X G a_4
  b_draws := (fun_mk (st := s_draws) l_4 c_4 k_4).binds fun _ _ _ _ _ _ us hl => match us, hl with | [_, _], _ => rfl
  f_start_by := f_5
  d_start_by := PySem.W.fnOf "start_by" "start_by" (defArgs s_start_by) (defBody s_start_by) (defScope s_start_by) .none kV_5 dc_5 pm_5 an_5 cd_5 ct_5
  F_start_by := fun_mk (st := s_start_by) l_5 c_5 k_5
  m_start_by := PySem.W.mg_of X G a_5
  b_start_by := (fun_mk (st := s_start_by) l_5 c_5 k_5).binds fun _ _ _ _ _ _ us hl => match us, hl with | [_, _], _ => rfl
  f_drawn_start := f_6
  d_drawn_start := PySem.W.fnOf "drawn_start" "drawn_start" (defArgs s_drawn_start) (defBody s_drawn_start) (defScope s_drawn_start) .none kV_6 dc_6 pm_6 an_6 cd_6 ct_6
  F_drawn_start := fun_mk (st := s_drawn_start) l_6 c_6 k_6
  m_drawn_start := PySem.W.mg_of X G a_6
  b_drawn_start := (fun_mk (st := s_drawn_start) l_6 c_6 k_6).binds fun _ _ _ _ _ _ us hl => match us, hl with | [_, _], _ => rfl
  f_drawn_hand := f_7
  d_drawn_hand := PySem.W.fnOf "drawn_hand" "drawn_hand" (defArgs s_drawn_hand) (defBody s_drawn_hand) (defScope s_drawn_hand) .none kV_7 dc_7 pm_7 an_7 cd_7 ct_7
  F_drawn_hand := fun_mk (st := s_drawn_hand) l_7 c_7 k_7
  m_drawn_hand := PySem.W.mg_of X G a_7
  b_drawn_hand := (fun_mk (st := s_drawn_hand) l_7 c_7 k_7).binds fun _ _ _ _ _ _ us hl => match us, hl with | [_, _], _ => rfl
  f_drawn_page := f_8
  d_drawn_page := PySem.W.fnOf "drawn_page" "drawn_page" (defArgs s_drawn_page) (defBody s_drawn_page) (defScope s_drawn_page) .none kV_8 dc_8 pm_8 an_8 cd_8 ct_8
  F_drawn_page := fun_mk (st := s_drawn_page) l_8 c_8 k_8
  m_drawn_page := PySem.W.mg_of X G a_8
  b_drawn_page := (fun_mk (st := s_drawn_page) l_8 c_8 k_8).binds fun _ _ _ _ _ _ us hl => match us, hl with | [_, _], _ => rfl
  f__law_bag := f_9
  d__law_bag := PySem.W.fnOf "_law_bag" "_law_bag" (defArgs s__law_bag) (defBody s__law_bag) (defScope s__law_bag) .none kV_9 dc_9 pm_9 an_9 cd_9 ct_9
  F__law_bag := fun_mk (st := s__law_bag) l_9 c_9 k_9
  m__law_bag := PySem.W.mg_of X G a_9
  b__law_bag := (fun_mk (st := s__law_bag) l_9 c_9 k_9).binds fun _ _ _ _ _ _ us hl => match us, hl with | [_], _ => rfl
  f__law_draw := f_10
  d__law_draw := PySem.W.fnOf "_law_draw" "_law_draw" (defArgs s__law_draw) (defBody s__law_draw) (defScope s__law_draw) .none kV_10 dc_10 pm_10 an_10 cd_10 ct_10
  F__law_draw := fun_mk (st := s__law_draw) l_10 c_10 k_10
  m__law_draw := PySem.W.mg_of X G a_10
  b__law_draw := (fun_mk (st := s__law_draw) l_10 c_10 k_10).binds fun _ _ _ _ _ _ us hl => match us, hl with | [_, _], _ => rfl
  f__law_pick := f_11
  d__law_pick := PySem.W.fnOf "_law_pick" "_law_pick" (defArgs s__law_pick) (defBody s__law_pick) (defScope s__law_pick) .none kV_11 dc_11 pm_11 an_11 cd_11 ct_11
  F__law_pick := fun_mk (st := s__law_pick) l_11 c_11 k_11
  m__law_pick := PySem.W.mg_of X G a_11
  b__law_pick := (fun_mk (st := s__law_pick) l_11 c_11 k_11).binds fun _ _ _ _ _ _ us hl => match us, hl with | [_, _], _ => rfl
  f__law_same := f_12
  d__law_same := PySem.W.fnOf "_law_same" "_law_same" (defArgs s__law_same) (defBody s__law_same) (defScope s__law_same) .none kV_12 dc_12 pm_12 an_12 cd_12 ct_12
  F__law_same := fun_mk (st := s__law_same) l_12 c_12 k_12
  m__law_same := PySem.W.mg_of X G a_12
  b__law_same := (fun_mk (st := s__law_same) l_12 c_12 k_12).binds fun _ _ _ _ _ _ us hl => match us, hl with | [_, _], _ => rfl
  f__law_gcd := f_13
  d__law_gcd := PySem.W.fnOf "_law_gcd" "_law_gcd" (defArgs s__law_gcd) (defBody s__law_gcd) (defScope s__law_gcd) .none kV_13 dc_13 pm_13 an_13 cd_13 ct_13
  F__law_gcd := fun_mk (st := s__law_gcd) l_13 c_13 k_13
  m__law_gcd := PySem.W.mg_of X G a_13
  b__law_gcd := (fun_mk (st := s__law_gcd) l_13 c_13 k_13).binds fun _ _ _ _ _ _ us hl => match us, hl with | [_, _], _ => rfl
  f__law_fr := f_14
  d__law_fr := PySem.W.fnOf "_law_fr" "_law_fr" (defArgs s__law_fr) (defBody s__law_fr) (defScope s__law_fr) .none kV_14 dc_14 pm_14 an_14 cd_14 ct_14
  F__law_fr := fun_mk (st := s__law_fr) l_14 c_14 k_14
  m__law_fr := PySem.W.mg_of X G a_14
  b__law_fr := (fun_mk (st := s__law_fr) l_14 c_14 k_14).binds fun _ _ _ _ _ _ us hl => match us, hl with | [_, _], _ => rfl
  f__law_times := f_15
  d__law_times := PySem.W.fnOf "_law_times" "_law_times" (defArgs s__law_times) (defBody s__law_times) (defScope s__law_times) .none kV_15 dc_15 pm_15 an_15 cd_15 ct_15
  F__law_times := fun_mk (st := s__law_times) l_15 c_15 k_15
  m__law_times := PySem.W.mg_of X G a_15
  b__law_times := (fun_mk (st := s__law_times) l_15 c_15 k_15).binds fun _ _ _ _ _ _ us hl => match us, hl with | [_, _], _ => rfl
  f__law_less := f_16
  d__law_less := PySem.W.fnOf "_law_less" "_law_less" (defArgs s__law_less) (defBody s__law_less) (defScope s__law_less) .none kV_16 dc_16 pm_16 an_16 cd_16 ct_16
  F__law_less := fun_mk (st := s__law_less) l_16 c_16 k_16
  m__law_less := PySem.W.mg_of X G a_16
  b__law_less := (fun_mk (st := s__law_less) l_16 c_16 k_16).binds fun _ _ _ _ _ _ us hl => match us, hl with | [_, _], _ => rfl
  f__law_ten := f_17
  d__law_ten := PySem.W.fnOf "_law_ten" "_law_ten" (defArgs s__law_ten) (defBody s__law_ten) (defScope s__law_ten) .none kV_17 dc_17 pm_17 an_17 cd_17 ct_17
  F__law_ten := fun_mk (st := s__law_ten) l_17 c_17 k_17
  m__law_ten := PySem.W.mg_of X G a_17
  b__law_ten := (fun_mk (st := s__law_ten) l_17 c_17 k_17).binds fun _ _ _ _ _ _ us hl => match us, hl with | [_], _ => rfl
  f__law_is_whole := f_18
  d__law_is_whole := PySem.W.fnOf "_law_is_whole" "_law_is_whole" (defArgs s__law_is_whole) (defBody s__law_is_whole) (defScope s__law_is_whole) .none kV_18 dc_18 pm_18 an_18 cd_18 ct_18
  F__law_is_whole := fun_mk (st := s__law_is_whole) l_18 c_18 k_18
  m__law_is_whole := PySem.W.mg_of X G a_18
  b__law_is_whole := (fun_mk (st := s__law_is_whole) l_18 c_18 k_18).binds fun _ _ _ _ _ _ us hl => match us, hl with | [_], _ => rfl
  f__law_is_fraction := f_19
  d__law_is_fraction := PySem.W.fnOf "_law_is_fraction" "_law_is_fraction" (defArgs s__law_is_fraction) (defBody s__law_is_fraction) (defScope s__law_is_fraction) .none kV_19 dc_19 pm_19 an_19 cd_19 ct_19
  F__law_is_fraction := fun_mk (st := s__law_is_fraction) l_19 c_19 k_19
  m__law_is_fraction := PySem.W.mg_of X G a_19
  b__law_is_fraction := (fun_mk (st := s__law_is_fraction) l_19 c_19 k_19).binds fun _ _ _ _ _ _ us hl => match us, hl with | [_], _ => rfl
  f__law_is_hand := f_20
  d__law_is_hand := PySem.W.fnOf "_law_is_hand" "_law_is_hand" (defArgs s__law_is_hand) (defBody s__law_is_hand) (defScope s__law_is_hand) .none kV_20 dc_20 pm_20 an_20 cd_20 ct_20
  F__law_is_hand := fun_mk (st := s__law_is_hand) l_20 c_20 k_20
  m__law_is_hand := PySem.W.mg_of X G a_20
  b__law_is_hand := (fun_mk (st := s__law_is_hand) l_20 c_20 k_20).binds fun _ _ _ _ _ _ us hl => match us, hl with | [_, _], _ => rfl
  f__law_half := f_21
  d__law_half := PySem.W.fnOf "_law_half" "_law_half" (defArgs s__law_half) (defBody s__law_half) (defScope s__law_half) .none kV_21 dc_21 pm_21 an_21 cd_21 ct_21
  F__law_half := fun_mk (st := s__law_half) l_21 c_21 k_21
  m__law_half := PySem.W.mg_of X G a_21
  b__law_half := (fun_mk (st := s__law_half) l_21 c_21 k_21).binds fun _ _ _ _ _ _ us hl => match us, hl with | [_, _, _], _ => rfl
  f__law_start := f_22
  d__law_start := PySem.W.fnOf "_law_start" "_law_start" (defArgs s__law_start) (defBody s__law_start) (defScope s__law_start) .none kV_22 dc_22 pm_22 an_22 cd_22 ct_22
  F__law_start := fun_mk (st := s__law_start) l_22 c_22 k_22
  m__law_start := PySem.W.mg_of X G a_22
  b__law_start := (fun_mk (st := s__law_start) l_22 c_22 k_22).binds fun _ _ _ _ _ _ us hl => match us, hl with | [_, _, _, _], _ => rfl
  f__law_own_draws := f_23
  d__law_own_draws := PySem.W.fnOf "_law_own_draws" "_law_own_draws" (defArgs s__law_own_draws) (defBody s__law_own_draws) (defScope s__law_own_draws) .none kV_23 dc_23 pm_23 an_23 cd_23 ct_23
  F__law_own_draws := fun_mk (st := s__law_own_draws) l_23 c_23 k_23
  m__law_own_draws := PySem.W.mg_of X G a_23
  b__law_own_draws := (fun_mk (st := s__law_own_draws) l_23 c_23 k_23).binds fun _ _ _ _ _ _ us hl => match us, hl with | [_, _], _ => rfl
  f__law_own_start := f_24
  d__law_own_start := PySem.W.fnOf "_law_own_start" "_law_own_start" (defArgs s__law_own_start) (defBody s__law_own_start) (defScope s__law_own_start) .none kV_24 dc_24 pm_24 an_24 cd_24 ct_24
  F__law_own_start := fun_mk (st := s__law_own_start) l_24 c_24 k_24
  m__law_own_start := PySem.W.mg_of X G a_24
  b__law_own_start := (fun_mk (st := s__law_own_start) l_24 c_24 k_24).binds fun _ _ _ _ _ _ us hl => match us, hl with | [_, _], _ => rfl
  f__law_own_hand := f_25
  d__law_own_hand := PySem.W.fnOf "_law_own_hand" "_law_own_hand" (defArgs s__law_own_hand) (defBody s__law_own_hand) (defScope s__law_own_hand) .none kV_25 dc_25 pm_25 an_25 cd_25 ct_25
  F__law_own_hand := fun_mk (st := s__law_own_hand) l_25 c_25 k_25
  m__law_own_hand := PySem.W.mg_of X G a_25
  b__law_own_hand := (fun_mk (st := s__law_own_hand) l_25 c_25 k_25).binds fun _ _ _ _ _ _ us hl => match us, hl with | [_, _], _ => rfl
  f__law_own_page := f_26
  d__law_own_page := PySem.W.fnOf "_law_own_page" "_law_own_page" (defArgs s__law_own_page) (defBody s__law_own_page) (defScope s__law_own_page) .none kV_26 dc_26 pm_26 an_26 cd_26 ct_26
  F__law_own_page := fun_mk (st := s__law_own_page) l_26 c_26 k_26
  m__law_own_page := PySem.W.mg_of X G a_26
  b__law_own_page := (fun_mk (st := s__law_own_page) l_26 c_26 k_26).binds fun _ _ _ _ _ _ us hl => match us, hl with | [_, _], _ => rfl
  f__law_numbers := f_27
  d__law_numbers := PySem.W.fnOf "_law_numbers" "_law_numbers" (defArgs s__law_numbers) (defBody s__law_numbers) (defScope s__law_numbers) .none kV_27 dc_27 pm_27 an_27 cd_27 ct_27
  F__law_numbers := fun_mk (st := s__law_numbers) l_27 c_27 k_27
  m__law_numbers := PySem.W.mg_of X G a_27
  b__law_numbers := (fun_mk (st := s__law_numbers) l_27 c_27 k_27).binds fun _ _ _ _ _ _ us hl => match us, hl with | [_], _ => rfl
  f_law := f_28
  d_law := PySem.W.fnOf "law" "law" (defArgs s_law) (defBody s_law) (defScope s_law) .none kV_28 dc_28 pm_28 an_28 cd_28 ct_28
  F_law := fun_mk (st := s_law) l_28 c_28 k_28
  m_law := PySem.W.mg_of X G a_28
  kb_draws_0 := L2.P3.Fun.kb (fun_mk (st := s_draws) l_4 c_4 k_4) 0 ["many", "numbers"] [1, 0] fun _ _ _ _ _ _ us ws h1 h2 => match us, ws, h1, h2 with | [], [_, _], _, _ => rfl
  kb_drawn_start_0 := L2.P3.Fun.kb (fun_mk (st := s_drawn_start) l_6 c_6 k_6) 0 ["d", "numbers"] [1, 0] fun _ _ _ _ _ _ us ws h1 h2 => match us, ws, h1, h2 with | [], [_, _], _, _ => rfl
  kb_drawn_hand_0 := L2.P3.Fun.kb (fun_mk (st := s_drawn_hand) l_7 c_7 k_7) 0 ["numbers", "start"] [1, 0] fun _ _ _ _ _ _ us ws h1 h2 => match us, ws, h1, h2 with | [], [_, _], _, _ => rfl
  kb_drawn_page_0 := L2.P3.Fun.kb (fun_mk (st := s_drawn_page) l_8 c_8 k_8) 0 ["d", "numbers"] [1, 0] fun _ _ _ _ _ _ us ws h1 h2 => match us, ws, h1, h2 with | [], [_, _], _, _ => rfl
  n_abs := PySem.W.mg_none_of X G z_abs
  n_bool := PySem.W.mg_none_of X G z_bool
  n_enumerate := PySem.W.mg_none_of X G z_enumerate
  n_int := PySem.W.mg_none_of X G z_int
  n_isinstance := PySem.W.mg_none_of X G z_isinstance
  n_len := PySem.W.mg_none_of X G z_len
  n_range := PySem.W.mg_none_of X G z_range
  n_str := PySem.W.mg_none_of X G z_str
  n_sum := PySem.W.mg_none_of X G z_sum
  n_tuple := PySem.W.mg_none_of X G z_tuple
  t_CUT := t_CUT
  m_CUT := PySem.W.mg_of X G q_CUT
  t_FACTOR := t_FACTOR
  m_FACTOR := PySem.W.mg_of X G q_FACTOR
  t_MORE := t_MORE
  m_MORE := PySem.W.mg_of X G q_MORE
  t_ROUND := t_ROUND
  m_ROUND := PySem.W.mg_of X G q_ROUND
  m_gcd := PySem.W.mg_of X G q_gcd
end Lawk88
namespace Lawk88
open PySem PySem.Spec PyProof.Rows L2 L2.P3 Cmb
local macro_rules | `(tactic| walk_at "w") => `(tactic| conv => whnf)
theorem frac_spec (a b : Int) (Q : PV → Prop) (hb : b ≠ 0) (hs : Sz 8000 b) (q : Q (fr (Rat.divInt a b))) : F_frac [.int a, .int b] Q := by
  have hg := sz_gcd (a := a) hb hs
  have hg0 := gcd_pos' (a := a) hb
  refine ⟨rfl, ?_⟩
  walk_at "w"
  refine br (fun h => ?_) (fun h => ?_)
  · have h := of_decide_eq_true h
    walk_at "w"
    refine ⟨divOk_sz hg.neg (by decide) (by omega), divOk_sz hg.neg (by decide) (by omega), by simp, ?_⟩
    rw [(frac_neg h).1, (frac_neg h).2]
    exact ⟨rfl, q⟩
  · have h : 0 < b := by have := of_decide_eq_false h; omega
    refine ⟨divOk_sz hg (by decide) (by omega), divOk_sz hg (by decide) (by omega), by simp, ?_⟩
    rw [fdiv_pos _ hg0, fdiv_pos _ hg0, (frac_pos h).1, (frac_pos h).2]
    exact ⟨rfl, q⟩
theorem times_spec (x y : Rat) (Q : PV → Prop) {n m : Nat} (hx : RS n x) (hy : RS m y) (h : n + m ≤ 8000) (q : Q (fr (x * y))) : F_times [fr x, fr y] Q := by
  have o := mulOk_fr hx hy (by omega)
  refine ⟨rfl, o.2.2.2.1, o.2.2.1, rfl, frac_spec _ _ _ (Int.ne_of_gt (Int.mul_pos (den_pos' x) (den_pos' y))) ((rs_nums hx hy).1.mono h) ?_⟩
  rw [← rat_mul_eq]
  exact ⟨rfl, q⟩
def seedI (v : List Int) : Int := (v.zipIdx.map fun p : Int × Nat => p.1 * ((p.2 : Int) + 1)).sum
def dst (v : List Int) : Nat → Int
  | 0 => seedI v
  | k + 1 => (dst v k * 1103515245 + 12345 + v.getD (k % v.length) 0) % 2147483648
def dout (v : List Int) (k : Nat) : Int := dst v (k + 1) / 65536
def dobj (v : List Int) (k : Nat) : List PV := [insTag "Drawer" fl_Drawer, .tup (v.map PV.int), .int k, .int (dst v k)]
structure Dok (v : List Int) : Prop where
  pos : 0 < v.length
  len : v.length ≤ 60
  sz : ∀ x ∈ v, Sz 130 x
theorem drawer_init_spec (v : List Int) (n : Nat) (S : Store) (Q : PQ) (hv : Dok v) (hn : S[n]? = some [insTag "Drawer" fl_Drawer]) (q : Q .non (S.set n (dobj v 0))) : F_Drawer_M_init [.obj n, .tup (v.map PV.int)] S Q := by
  have hl := (List.getElem?_eq_some_iff.mp hn).1
  unfold F_Drawer_M_init
  refine ⟨rfl, ?_⟩
  refine s_seq (fun ρ S' => ρ = [some (.obj n), some (.tup (v.map PV.int)), none, none] ∧ S' = S.set n [insTag "Drawer" fl_Drawer, .tup (v.map PV.int)]) ⟨_, hn, Nat.zero_le _, rfl, rfl⟩ ?_
  rintro ρ S' ⟨rfl, rfl⟩
  refine s_seq (fun ρ S' => ρ = [some (.obj n), some (.tup (v.map PV.int)), none, none] ∧ S' = S.set n [insTag "Drawer" fl_Drawer, .tup (v.map PV.int), .int 0]) ⟨[.tup (v.map PV.int)], List.getElem?_set_self hl, by simp, rfl, by rw [List.set_set]; rfl⟩ ?_
  rintro ρ S' ⟨rfl, rfl⟩
  walk_at "w"
  refine pSumL_numd (fun p => p.1 * ((p.2 : Int) + 1)) (by exact rfl) v 0 (fun p hp hp2 hp1 Qk hq => ?_) ?_
  · refine gT2 ?_
    have := hv.len
    exact ⟨mulOk_sz (hv.sz _ hp1) (b := 10) (sz_le (b := 100) (by omega) (by omega) (by decide)) (by decide), hq⟩
  · rw [Int.zero_add]
    refine ⟨[.tup (v.map PV.int), .int 0], List.getElem?_set_self hl, by simp, ?_⟩
    rw [List.set_set]
    exact q
theorem atI_mod {v : List Int} (hv : 0 < v.length) (k : Nat) : atI (v.map PV.int) ((k : Int) % (v.length : Int)) = some (.int (v.getD (k % v.length) 0)) := by
  rw [show (k : Int) % (v.length : Int) = ((k % v.length : Nat) : Int) by simp]
  exact atI_ints (Nat.mod_lt _ hv)
theorem drawer_draw_spec (v : List Int) (k n : Nat) (S : Store) (Q : PQ) (hv : Dok v) (hn : S[n]? = some (dobj v k)) (q : Q (.int (dout v k)) (S.set n (dobj v (k + 1)))) : F_Drawer_M_draw [.obj n] S Q := by
  have hl := (List.getElem?_eq_some_iff.mp hn).1
  have hvl := hv.len
  have hpos := hv.pos
  unfold F_Drawer_M_draw
  refine ⟨rfl, ?_⟩
  refine s_seq (fun ρ S' => ρ = [some (.obj n), some (.int (v.getD (k % v.length) 0))] ∧ S' = S) ?_ ?_
  · refine ⟨_, hn, _, hn, _, hn, ?_⟩
    walk_at "w"
    rw [ints_len]
    refine ⟨by omega, ?_⟩
    rw [fmod_pos _ (by omega)]
    refine onO_of (atI_mod hpos k) ?_
    exact ⟨rfl, rfl⟩
  rintro ρ S' ⟨rfl, rfl⟩
  refine s_seq (fun ρ S'' => ρ = [some (.obj n), some (.int (v.getD (k % v.length) 0))] ∧ S'' = S'.set n [insTag "Drawer" fl_Drawer, .tup (v.map PV.int), .int k, .int (dst v (k + 1))]) ?_ ?_
  · refine ⟨_, hn, ?_⟩
    refine ⟨mulOk_r (by decide) (by decide), by decide, ?_⟩
    rw [fmod_pos _ (by decide)]
    exact ⟨_, hn, by simp, rfl, rfl⟩
  rintro ρ S'' ⟨rfl, rfl⟩
  refine s_seq (fun ρ S'' => ρ = [some (.obj n), some (.int (v.getD (k % v.length) 0))] ∧ S'' = S'.set n (dobj v (k + 1))) ?_ ?_
  · refine ⟨_, List.getElem?_set_self hl, _, List.getElem?_set_self hl, by simp, rfl, ?_⟩
    rw [List.set_set]
    rfl
  rintro ρ S'' ⟨rfl, rfl⟩
  refine ⟨_, List.getElem?_set_self hl, ⟨by decide, by decide⟩, ?_⟩
  rw [fdiv_pos _ (by decide)]
  exact q
theorem dout_map (v : List Int) (many : Nat) : ((List.range many).map fun k => PV.int (dout v k)) = ((List.range many).map (dout v)).map PV.int := by simp
theorem draws_spec (v : List Int) (many : Nat) (Q : PV → Prop) (hv : Dok v) (hm : many ≤ 1000) (q : Q (.tup (((List.range many).map (dout v)).map PV.int))) : F_draws [.tup (v.map PV.int), .int many] Q := by
  refine ⟨rfl, ?_⟩
  refine s_seq (fun ρ S => ρ = [some (.tup (v.map PV.int)), some (.int many), some (.obj 0), none] ∧ S = [dobj v 0]) ?_ ?_
  · refine drawer_init_spec v 0 _ _ hv rfl ?_
    exact ⟨rfl, rfl, rfl⟩
  rintro ρ S ⟨rfl, rfl⟩
  walk_at "w"
  refine ⟨by omega, by omega, ?_⟩
  rw [Int.toNat_natCast]
  refine pLcL_runR (fun i acc S => acc = (List.range i).map (fun k => PV.int (dout v k)) ∧ S = [dobj v i, acc]) (fun _ _ _ _ => trivial) (by omega) ⟨rfl, rfl⟩ ?_ ?_
  · rintro i acc S hi ⟨rfl, rfl⟩
    refine ⟨⟨_, rfl⟩, ?_⟩
    refine drawer_draw_spec v i 0 _ _ hv rfl ?_
    refine ⟨_, rfl, rfl, by simp; omega, ?_, rfl⟩
    rw [List.range_succ, List.map_append]
    rfl
  · rintro acc S ⟨rfl, rfl⟩
    walk_at "w"
    rw [dout_map]
    exact ⟨belows_ints _, q⟩
def worthI (v : List Int) (k j : Nat) : Rat := Rat.divInt (dout v (k + 2 * j) % 2001 - 1000) 100
def unitI (v : List Int) (k j : Nat) : Rat := Rat.divInt (dout v (k + 2 * j + 1) % 50) 100
def startP (v : List Int) (k d : Nat) : PV := .tup [.tup (frl (d + 1) (worthI v k)), .tup (frl (d + 1) (unitI v k))]
theorem pairs_at {k i : Nat} {f g : Nat → Rat} (h : i < k) : True := trivial
theorem start_by_spec (v : List Int) (k d n : Nat) (S : Store) (Q : PQ) (hv : Dok v) (hd : d ≤ 1000) (hn : S[n]? = some (dobj v k)) (q : ∀ G, Q (startP v k d) (S.set n (dobj v (k + 2 * (d + 1))) ++ G)) : F_start_by [.obj n, .int d] S Q := by
  have hl := (List.getElem?_eq_some_iff.mp hn).1
  unfold F_start_by
  refine ⟨rfl, ?_⟩
  refine s_seq (fun ρ S' => ρ = [some (.obj n), some (.int d), some (.lst S.length), none, none, none] ∧ S' = S ++ [[]]) ⟨by simp, rfl, rfl⟩ ?_
  rintro ρ S' ⟨rfl, rfl⟩
  let row : Nat → PV := fun j => .tup [fr (worthI v k j), fr (unitI v k j)]
  refine s_seq (fun ρ S' => ∃ a3 a4, ρ = [some (.obj n), some (.int d), some (.lst S.length), a3, a4, none] ∧ S' = S.set n (dobj v (k + 2 * (d + 1))) ++ [(List.range (d + 1)).map row]) ?_ ?_
  · refine ⟨by omega, by omega, ?_⟩
    rw [show ((d : Int) + 1).toNat = d + 1 by omega]
    refine pForL_range (fun j ρ S' => ∃ a3 a4, ρ = [some (.obj n), some (.int d), some (.lst S.length), a3, a4, none] ∧ S' = S.set n (dobj v (k + 2 * j)) ++ [(List.range j).map row]) ⟨_, _, rfl, ?_⟩ ?_ ?_
    · rw [show S.set n (dobj v (k + 2 * 0)) = S from put_same hn]
      rfl
    · rintro j ρ S' hj ⟨a3, a4, rfl, rfl⟩
      have g1 : ∀ (x : List PV) (y : List PV), (S.set n x ++ [y])[n]? = some x := fun x y => by
        rw [List.getElem?_append_left (by rw [List.length_set]; exact hl)]
        exact List.getElem?_set_self hl
      have s1 : ∀ (x x' : List PV) (y : List PV), (S.set n x ++ [y]).set n x' = S.set n x' ++ [y] := fun x x' y => by
        rw [List.set_append_left _ _ (by rw [List.length_set]; exact hl), List.set_set]
      have g2 : ∀ (x : List PV) (y : List PV), (S.set n x ++ [y])[S.length]? = some y := fun x y => by
        have e : S.length = (S.set n x).length := by rw [List.length_set]
        rw [e]
        exact get_new
      have s2 : ∀ (x : List PV) (y y' : List PV), (S.set n x ++ [y]).set S.length y' = S.set n x ++ [y'] := fun x y y' => by
        have e : S.length = (S.set n x).length := by rw [List.length_set]
        rw [e, List.set_append_right _ _ (Nat.le_refl _), Nat.sub_self]
        rfl
      refine s_seq (fun ρ S' => ρ = [some (.obj n), some (.int d), some (.lst S.length), some (.int j), some (fr (worthI v k j)), none] ∧ S' = S.set n (dobj v (k + 2 * j + 1)) ++ [(List.range j).map row]) ?_ ?_
      · refine ⟨⟨_, g1 _ _⟩, ?_⟩
        refine drawer_draw_spec v (k + 2 * j) n _ _ hv (g1 _ _) ?_
        rw [s1]
        refine ⟨by decide, ?_⟩
        rw [fmod_pos _ (by decide)]
        refine ⟨rfl, frac_spec _ _ _ (by decide) (sz_le (b := 100) (by decide) (by decide) (by decide)) ?_⟩
        exact ⟨rfl, rfl⟩
      rintro ρ S' ⟨rfl, rfl⟩
      refine ⟨⟨_, g1 _ _⟩, ?_⟩
      refine drawer_draw_spec v (k + 2 * j + 1) n _ _ hv (g1 _ _) ?_
      rw [s1]
      refine ⟨by decide, ?_⟩
      rw [fmod_pos _ (by decide)]
      refine ⟨rfl, frac_spec _ _ _ (by decide) (sz_le (b := 100) (by decide) (by decide) (by decide)) ?_⟩
      refine ⟨by simp, ?_⟩
      refine onO_of (g2 _ _) ?_
      refine ⟨by simp; omega, _, _, rfl, ?_⟩
      rw [s2, List.range_succ, List.map_append]
      rfl
    · rintro ρ S' ⟨a3, a4, rfl, rfl⟩
      exact ⟨_, _, rfl, rfl⟩
  rintro ρ S' ⟨a3, a4, rfl, rfl⟩
  generalize hS1 : S.set n (dobj v (k + 2 * (d + 1))) = S1 at q
  have hl1 : S.length = S1.length := by rw [← hS1, List.length_set]
  rw [hl1]
  have hrow : ∀ (acc : List PV), (S1 ++ [(List.range (d + 1)).map row] ++ [acc])[S1.length]? = some ((List.range (d + 1)).map row) := fun acc => by simp
  have hrow2 : (S1 ++ [(List.range (d + 1)).map row])[S1.length]? = some ((List.range (d + 1)).map row) := get_new
  have lens : (S1 ++ [(List.range (d + 1)).map row]).length = S1.length + 1 := by simp
  refine onO_of hrow2 ?_
  refine pLcL_rng (a := row) (fun j => fr (worthI v k j)) hrow (by omega) (fun j hj acc Qk hq => ?_) ?_
  · exact hq
  have e1 : ((List.range (d + 1)).map fun j => fr (worthI v k j)) = frl (d + 1) (worthI v k) := rfl
  rw [e1]
  walk_at "w"
  refine onO_of get_new ?_
  refine ⟨frs_belows, ⟨_, rfl⟩, ?_⟩
  refine onO_of hrow2 ?_
  refine pLcL_rng (a := row) (fun j => fr (unitI v k j)) hrow (by omega) (fun j hj acc Qk hq => ?_) ?_
  · exact hq
  have e2 : ((List.range (d + 1)).map fun j => fr (unitI v k j)) = frl (d + 1) (unitI v k) := rfl
  rw [e2]
  walk_at "w"
  refine onO_of get_new ?_
  refine ⟨frs_belows, ⟨_, rfl⟩, ?_⟩
  exact ⟨by simp, q _⟩
theorem dat_start {n : Nat} (v : List Int) (k d : Nat) (hd : d ≤ 1000) : dat true (n + 3) (startP v k d) = true := by
  unfold startP
  refine dat_tup (n := n + 2) (by simp) ?_
  have h1 : dat true (n + 2) (.tup (frl (d + 1) (worthI v k))) = true := dat_tup (n := n + 1) (by rw [frs_len]; omega) frs_dats
  have h2 : dat true (n + 2) (.tup (frl (d + 1) (unitI v k))) = true := dat_tup (n := n + 1) (by rw [frs_len]; omega) frs_dats
  simp [dats, h1, h2]
theorem drawn_start_spec (v : List Int) (d : Nat) (Q : PV → Prop) (hv : Dok v) (hd : d ≤ 1000) (q : Q (startP v 0 d)) : F_drawn_start [.tup (v.map PV.int), .int d] Q := by
  refine ⟨rfl, ?_⟩
  refine drawer_init_spec v 0 _ _ hv rfl ?_
  refine ⟨rfl, ?_⟩
  refine start_by_spec v 0 d 0 _ _ hv hd rfl fun G => ?_
  exact ⟨dat_below (dat_start (n := 1) v 0 d hd), q⟩
def partI (v : List Int) (j : Nat) : Rat := Rat.divInt (dout v j % 201 - 100) 100
theorem rs_part (v : List Int) (j : Nat) : RS 20 (partI v j) := by
  unfold partI
  exact rs_divInt (by decide) (sz_le (b := 100) (by omega) (by omega) (by decide)) (sz_le (b := 100) (by decide) (by decide) (by decide))
theorem drawn_hand_spec (v : List Int) (x : PV) (k : Nat) (u : Nat → Rat) (Q : PV → Prop) (hv : Dok v) (hx : below 0 x = true) (hk : k ≤ 1000) (hu : ∀ i, i < k → RS 100 (u i)) (q : Q (.tup (frl k fun j => u j * partI v j))) : F_drawn_hand [.tup [x, .tup (frl k u)], .tup (v.map PV.int)] Q := by
  refine ⟨rfl, ?_⟩
  refine s_seq (fun ρ S => ρ = [some (.tup [x, .tup (frl k u)]), some (.tup (v.map PV.int)), some (.obj 0), none] ∧ S = [dobj v 0]) ?_ ?_
  · refine drawer_init_spec v 0 _ _ hv rfl ?_
    exact ⟨rfl, rfl, rfl⟩
  rintro ρ S ⟨rfl, rfl⟩
  walk_at "w"
  refine pLcL_runR (a := fun i => fr (u i)) (k := k) (fun i acc S => acc = frl i (fun j => u j * partI v j) ∧ S = [dobj v i, acc]) (fun _ _ _ _ => trivial) (by omega) ⟨rfl, rfl⟩ ?_ ?_
  · rintro i acc S hi ⟨rfl, rfl⟩
    refine ⟨⟨_, rfl⟩, ?_⟩
    refine drawer_draw_spec v i 0 _ _ hv rfl ?_
    refine ⟨by decide, ?_⟩
    rw [fmod_pos _ (by decide)]
    refine ⟨rfl, frac_spec _ _ _ (by decide) (sz_le (b := 100) (by decide) (by decide) (by decide)) ?_⟩
    refine ⟨rfl, times_spec _ _ _ (hu i hi) (rs_part v i) (by decide) ?_⟩
    refine ⟨_, rfl, rfl, by rw [frs_len]; omega, ?_, rfl⟩
    rw [frs_next]
    rfl
  · rintro acc S ⟨rfl, rfl⟩
    walk_at "w"
    exact ⟨by unfold below; exact frs_belows, q⟩
def pageP (v : List Int) (d : Nat) : PV := .tup [startP v 0 d, .int (dout v (2 * (d + 1)) % 21 - 10), .int (5 + dout v (2 * (d + 1) + 1) % 10), .int 0, .str "up"]
theorem drawn_page_spec (v : List Int) (d : Nat) (Q : PV → Prop) (hv : Dok v) (hd : d ≤ 1000) (q : Q (pageP v d)) : F_drawn_page [.tup (v.map PV.int), .int d] Q := by
  refine ⟨rfl, ?_⟩
  refine s_seq (fun ρ S => ρ = [some (.tup (v.map PV.int)), some (.int d), some (.obj 0), none, none] ∧ S = [dobj v 0]) ?_ ?_
  · refine drawer_init_spec v 0 _ _ hv rfl ?_
    exact ⟨rfl, rfl, rfl⟩
  rintro ρ S ⟨rfl, rfl⟩
  refine s_seq (fun ρ S => ∃ G, ρ = [some (.tup (v.map PV.int)), some (.int d), some (.obj 0), some (startP v 0 d), none] ∧ S = dobj v (2 * (d + 1)) :: G) ?_ ?_
  · refine start_by_spec v 0 d 0 _ _ hv hd rfl fun G => ?_
    rw [Nat.zero_add]
    exact ⟨G, rfl, rfl⟩
  rintro ρ S ⟨G, rfl, rfl⟩
  refine s_seq (fun ρ S => ρ = [some (.tup (v.map PV.int)), some (.int d), some (.obj 0), some (startP v 0 d), some (.int (dout v (2 * (d + 1)) % 21 - 10))] ∧ S = dobj v (2 * (d + 1) + 1) :: G) ?_ ?_
  · refine ⟨⟨_, rfl⟩, ?_⟩
    refine drawer_draw_spec v _ 0 _ _ hv rfl ?_
    refine ⟨by decide, ?_⟩
    rw [fmod_pos _ (by decide)]
    exact ⟨rfl, rfl⟩
  rintro ρ S ⟨rfl, rfl⟩
  refine ⟨⟨_, rfl⟩, ?_⟩
  refine drawer_draw_spec v _ 0 _ _ hv rfl ?_
  refine ⟨by decide, ?_⟩
  rw [fmod_pos _ (by decide)]
  have hb : below 0 (startP v 0 d) = true := dat_below (dat_start (n := 1) v 0 d hd)
  exact ⟨by simp, by simp [below, belows, hb], q⟩
theorem pick_spec (S : Store) (n : Nat) (xs : List PV) (Q : PQ) (e : S[n]? = some xs) (h0 : 0 < xs.length) (h1 : xs.length ≤ 1000000) (hb : belows S.length xs = true) (q : ∀ x ∈ xs, Q x S) : F__law_pick [.bag, .lst n] S Q := by
  unfold F__law_pick
  refine ⟨rfl, ?_⟩
  refine onO_of e ?_
  refine ⟨rfl, P3.draw_spec _ _ (by omega) (by omega) fun r h2 h3 => ?_⟩
  refine onO_of e ?_
  have hr : r.toNat < xs.length := by omega
  refine onO_of (x := xs[r.toNat]) (by rw [atI_get? h2]; simp [hr]) ?_
  exact ⟨belows_mem.mp hb _ (List.getElem_mem hr), ⟨[], by simp⟩, q _ (List.getElem_mem hr)⟩
theorem pick_tup (S : Store) (xs : List PV) (Q : PQ) (h0 : 0 < xs.length) (h1 : xs.length ≤ 1000000) (hb : belows S.length xs = true) (q : ∀ x ∈ xs, Q x S) : F__law_pick [.bag, .tup xs] S Q := by
  unfold F__law_pick
  refine ⟨rfl, ?_⟩
  refine ⟨rfl, P3.draw_spec _ _ (by omega) (by omega) fun r h2 h3 => ?_⟩
  have hr : r.toNat < xs.length := by omega
  refine onO_of (x := xs[r.toNat]) (by rw [atI_get? h2]; simp [hr]) ?_
  exact ⟨belows_mem.mp hb _ (List.getElem_mem hr), ⟨[], by simp⟩, q _ (List.getElem_mem hr)⟩
theorem pick_new {S : Store} {xs : List PV} {Q : PQ} (lo hi : Int) (h0 : 0 < xs.length) (h1 : xs.length ≤ 1000000) (hA : AllIn lo hi xs) (q : ∀ i, lo ≤ i → i ≤ hi → Q (.int i) (S ++ [xs])) : F__law_pick [.bag, .lst S.length] (S ++ [xs]) Q := by
  refine pick_spec (S ++ [xs]) S.length xs Q (by simp) h0 h1 (belows_mem.mpr fun x hx => ?_) fun x hx => ?_
  · obtain ⟨i, rfl, _⟩ := hA.mem x hx; rfl
  · obtain ⟨i, rfl, h2, h3⟩ := hA.mem x hx; exact q i h2 h3
theorem law_gcd_spec (a b : Int) (Q : PV → Prop) (hs : Sz 8000 b) (q : Q (.int ((Int.gcd a b : Nat) : Int))) : F__law_gcd [.int a, .int b] Q := by
  refine ⟨rfl, ?_⟩
  walk_at "w"
  refine ⟨fun k ρ S => ∃ x y : Int, ρ = [some (.int x), some (.int y)] ∧ 0 ≤ x ∧ 0 ≤ y ∧ Int.gcd x y = Int.gcd a b ∧ k = y.toNat, ⟨_, _, _, rfl, by omega, by omega, by simp [Int.gcd], rfl⟩, ?_⟩
  rintro k ρ S ⟨x, y, rfl, hx, hy, hg, rfl⟩
  refine br (fun h => ?_) (fun h => ?_)
  · have h : y ≠ 0 := by simpa using h
    walk_at "w"
    refine ⟨h, ?_⟩
    have hy0 : 0 < y := by omega
    rw [fmod_pos _ hy0]
    have h1 := Int.emod_nonneg x h
    have h2 := Int.emod_lt_of_pos x hy0
    exact ⟨(x % y).toNat, by omega, y, x % y, rfl, hy, h1, by rw [← hg]; exact gcd_step hx hy, rfl⟩
  · have h : y = 0 := by simpa using h
    subst h
    have e : x = ((Int.gcd a b : Nat) : Int) := by rw [← hg, Int.gcd_zero]; omega
    rw [← e] at q
    exact ⟨rfl, q⟩
theorem law_fr_pos_spec (a b : Int) (Q : PV → Prop) (hb : 0 < b) (hs : Sz 8000 b) (q : Q (fr (Rat.divInt a b))) : F__law_fr [.int a, .int b] Q := by
  refine ⟨rfl, ?_⟩
  have hg := sz_gcd (a := a) (Int.ne_of_gt hb) hs
  have hg0 := gcd_pos' (a := a) (Int.ne_of_gt hb)
  refine ⟨rfl, law_gcd_spec a b _ hs ?_⟩
  walk_at "w"
  refine ⟨divOk_sz hg (by decide) (by omega), divOk_sz hg (by decide) (by omega), by simp, ?_⟩
  rw [fdiv_pos _ hg0, fdiv_pos _ hg0, (frac_pos hb).1, (frac_pos hb).2]
  exact ⟨rfl, q⟩
theorem law_times_spec (x y : Rat) (Q : PV → Prop) {n m : Nat} (hx : RS n x) (hy : RS m y) (h : n + m ≤ 8000) (q : Q (fr (x * y))) : F__law_times [fr x, fr y] Q := by
  have o := mulOk_fr hx hy (by omega)
  refine ⟨rfl, o.2.2.2.1, o.2.2.1, rfl, law_fr_pos_spec _ _ _ (Int.mul_pos (den_pos' x) (den_pos' y)) ((rs_nums hx hy).1.mono h) ?_⟩
  rw [← rat_mul_eq]
  exact ⟨rfl, q⟩
theorem law_less_spec (x y : Rat) (Q : PV → Prop) {n m : Nat} (hx : RS n x) (hy : RS m y) (h : n + m ≤ 8000) (q : Q (.bl (decide (x < y)))) : F__law_less [fr x, fr y] Q := by
  have o := mulOk_fr hx hy (by omega)
  refine ⟨rfl, o.1, o.2.1, ?_⟩
  rw [← below_rat] at q
  exact ⟨rfl, q⟩
theorem law_ten_spec (k : Int) (Q : PV → Prop) (h0 : -2000 ≤ k) (h1 : k ≤ 2000) (q : Q (.int (10 ^ k.toNat))) : F__law_ten [.int k] Q := by
  refine ⟨rfl, ?_⟩
  walk_at "w"
  refine ⟨by omega, by omega, ?_⟩
  refine pForL_range (fun j ρ S => ∃ z, ρ = [some (.int k), some (.int (10 ^ j)), z]) ⟨none, rfl⟩ ?_ ?_
  · rintro j ρ S hj ⟨z, rfl⟩
    walk_at "w"
    exact ⟨mulOk_r (by decide) (by decide), some (.int j), rfl⟩
  · rintro ρ S ⟨z, rfl⟩
    exact ⟨rfl, q⟩
theorem law_is_whole_int (i : Int) (Q : PV → Prop) (q : Q (.bl true)) : F__law_is_whole [.int i] Q := ⟨rfl, rfl, q⟩
theorem law_is_fraction_spec (x : Rat) (Q : PV → Prop) (hx : RS 8000 x) (q : Q (.bl true)) : F__law_is_fraction [fr x] Q := by
  refine ⟨rfl, ?_⟩
  refine s_seq (fun ρ S => ρ = [some (fr x)] ∧ S = []) ?_ ?_
  · refine ⟨rfl, law_is_whole_int _ _ ?_⟩
    refine ⟨rfl, law_is_whole_int _ _ ?_⟩
    have hd : decide ((x.den : Int) < 1) = false := by
      have := x.den_pos
      simp
      omega
    walk_at "w"
    rw [hd]
    exact ⟨rfl, rfl⟩
  rintro ρ S ⟨rfl, rfl⟩
  refine ⟨rfl, law_gcd_spec _ _ _ hx.2 ?_⟩
  walk_at "w"
  have e : Int.gcd (x.num.natAbs : Int) (x.den : Int) = 1 := by
    rw [Int.gcd_eq_natAbs_gcd_natAbs, Int.natAbs_natCast, Int.natAbs_natCast]
    exact x.reduced
  rw [e]
  exact ⟨rfl, q⟩
theorem law_is_hand_spec (k : Nat) (f u h : Nat → Rat) (Q : PV → Prop) (hk : k ≤ 1000) (hu : ∀ i, i < k → RS 100 (u i) ∧ RS 200 (h i) ∧ (h i).abs ≤ u i) (q : Q (.bl true)) : F__law_is_hand [.tup [.tup (frl k f), .tup (frl k u)], .tup (frl k h)] Q := by
  refine ⟨rfl, ?_⟩
  refine s_seq (fun ρ S => ρ = [some (.tup [.tup (frl k f), .tup (frl k u)]), some (.tup (frl k h)), none] ∧ S = []) ?_ ?_
  · walk_at "w"
    rw [frs_len, frs_len]
    refine brF (by simp) ⟨rfl, rfl⟩
  rintro ρ S ⟨rfl, rfl⟩
  refine s_seq (fun ρ S => ∃ a2, ρ = [some (.tup [.tup (frl k f), .tup (frl k u)]), some (.tup (frl k h)), a2] ∧ S = []) ?_ ?_
  · walk_at "w"
    rw [frs_len]
    refine ⟨by omega, by omega, ?_⟩
    rw [Int.toNat_natCast]
    refine pForL_range (fun j ρ S => ∃ a2, ρ = [some (.tup [.tup (frl k f), .tup (frl k u)]), some (.tup (frl k h)), a2] ∧ S = []) ⟨_, rfl, rfl⟩ ?_ ?_
    · rintro j ρ S hj ⟨a2, rfl, rfl⟩
      obtain ⟨s1, s2, h1⟩ := hu j hj
      refine onO_of (frs_at hj) ?_
      refine ⟨rfl, law_is_fraction_spec _ _ (s2.mono (by decide)) ?_⟩
      refine onO_of (frs_at hj) ?_
      refine onO_of (frs_at hj) ?_
      refine onO_of (frs_at hj) ?_
      walk_at "w"
      refine ⟨by simp, ?_⟩
      rw [fr_abs]
      refine ⟨rfl, law_less_spec _ _ _ s1 (rs_abs s2) (by decide) ?_⟩
      have e : ¬ u j < (h j).abs := Rat.not_lt.mpr h1
      rw [decide_eq_false e]
      exact ⟨_, rfl, rfl⟩
    · rintro ρ S ⟨a2, rfl, rfl⟩
      exact ⟨_, rfl, rfl⟩
  rintro ρ S ⟨a2, rfl, rfl⟩
  exact ⟨rfl, q⟩
theorem law_half_spec (most below : Int) (Q : PV → Prop) (m0 : 0 ≤ most) (m1 : most ≤ 100) (b0 : 1 ≤ below) (b1 : below ≤ 100) (q : ∀ r, RS 20 r → Q (fr r)) : F__law_half [.bag, .int most, .int below] Q := by
  refine ⟨rfl, ?_⟩
  refine s_seq (fun ρ S => ∃ b : Int, 1 ≤ b ∧ b ≤ below ∧ ρ = [some .bag, some (.int most), some (.int below), some (.int b)] ∧ S = []) ?_ ?_
  · refine ⟨rfl, draw_spec _ _ (by omega) (by have : (100 : Int) ≤ 10 ^ 120 := by decide +kernel
                                              omega) fun r r0 r1 => ?_⟩
    exact ⟨1 + r, by omega, by omega, rfl, rfl⟩
  rintro ρ S ⟨b, b2, b3, rfl, rfl⟩
  have h1 : 0 ≤ most * b := Int.mul_nonneg m0 (by omega)
  have h2 : most * b ≤ 100 * 100 := Int.mul_le_mul m1 (by omega) (by omega) (by omega)
  have h3 : 2 * most * b = 2 * (most * b) := by rw [Int.mul_assoc]
  refine ⟨mulOk_l (by decide) (by decide), mulOk_l (by omega) (by omega), rfl, draw_spec _ _ (by omega) (by have : (20001 : Int) ≤ 10 ^ 120 := by decide +kernel
                                                                                                            omega) fun r r0 r1 => ?_⟩
  refine ⟨mulOk_l (by omega) (by omega), rfl, law_fr_pos_spec _ _ _ (by omega) (sz_le (b := 100) (by omega) (by omega) (by decide)) ?_⟩
  have hr : RS 20 (Rat.divInt (r - most * b) b) := rs_divInt (by omega) (sz_le (b := 20001) (by omega) (by omega) (by decide)) (sz_le (b := 100) (by omega) (by omega) (by decide))
  exact ⟨by unfold fr; rfl, q _ hr⟩
theorem unit_pick {x : PV} (h : x ∈ [PV.tup [.int 0, .int 1], .tup [.int 1, .int 2], .tup [.int 1, .int 4], .tup [.int 1, .int 10], .tup [.int 1, .int 1], .tup [.int 1, .int 20]]) : ∃ r, x = fr r ∧ RS 20 r ∧ 0 ≤ r := by
  have one : ∀ k : Int, 0 < k → k ≤ 100 → ∃ r, PV.tup [.int 1, .int k] = fr r ∧ RS 20 r ∧ 0 ≤ r := fun k h0 h1 =>
    ⟨Rat.divInt 1 k, fr_one_over h0, rs_divInt (by omega) (sz_le (b := 1) (by decide) (by decide) (by decide)) (sz_le (b := 100) (by omega) (by omega) (by decide)), Rat.divInt_nonneg (by decide) (by omega)⟩
  simp only [List.mem_cons, List.not_mem_nil, or_false] at h
  rcases h with rfl | rfl | rfl | rfl | rfl | rfl
  · refine ⟨((0 : Int) : Rat), (fr_int 0).symm, ⟨by unfold Sz; decide, by unfold Sz; decide⟩, by decide⟩
  · exact one 2 (by decide) (by decide)
  · exact one 4 (by decide) (by decide)
  · exact one 10 (by decide) (by decide)
  · exact one 1 (by decide) (by decide)
  · exact one 20 (by decide) (by decide)
theorem law_start_spec (d : Nat) (Q : PV → Prop) (hd : d ≤ 100) (q : ∀ (f u : Nat → Rat), (∀ i, i < d + 1 → RS 20 (u i) ∧ 0 ≤ u i) → Q (.tup [.tup (frl (d + 1) f), .tup (frl (d + 1) u)])) : F__law_start [.bag, .int d, .int 6, .int 4] Q := by
  have hlen : (List.map (fun k : Nat => PV.int k) (List.range ((d : Int) + 1).toNat)).length = d + 1 := by simp
  refine ⟨rfl, ?_⟩
  refine s_seq (fun ρ S => ∃ (f : Nat → Rat) (n : Nat), S[n]? = some (frl (d + 1) f) ∧ ρ = [some .bag, some (.int d), some (.int 6), some (.int 4), some (.lst n), none, none]) ?_ ?_
  · walk_at "w"
    refine ⟨by omega, by omega, ?_⟩
    refine pLcL_frs (S := []) (R := RS 20) (fun _ _ => trivial) _ (fun i x ex acc S1 Qk hS hq => ?_) (by simp; omega) fun f G hf => ?_
    · obtain ⟨j, hj, rfl⟩ := List.mem_map.mp (List.mem_of_getElem? ex)
      walk_at "w"
      refine br (fun h => ?_) (fun h => ?_)
      · exact ⟨rfl, law_half_spec 6 4 _ (by decide) (by decide) (by decide) (by decide) fun r hr => hq _ _ hS hr⟩
      · exact ⟨rfl, law_half_spec 2 4 _ (by decide) (by decide) (by decide) (by decide) fun r hr => hq _ _ hS hr⟩
    rw [hlen] at hf ⊢
    exact ⟨f, 0, rfl, rfl⟩
  rintro ρ S ⟨f, n, hn, rfl⟩
  refine s_seq (fun ρ S => ∃ (f u : Nat → Rat) (n m : Nat) (a5 : Option PV), S[n]? = some (frl (d + 1) f) ∧ S[m]? = some (frl (d + 1) u) ∧ (∀ i, i < d + 1 → RS 20 (u i) ∧ 0 ≤ u i) ∧ ρ = [some .bag, some (.int d), some (.int 6), some (.int 4), some (.lst n), a5, some (.lst m)]) ?_ ?_
  · walk_at "w"
    refine ⟨by omega, by omega, ?_⟩
    refine pLcL_frs (S := S) (R := fun r => RS 20 r ∧ 0 ≤ r) (fun _ _ => trivial) _ (fun i x ex acc S1 Qk hS hq => ?_) (by simp; omega) fun u G hu => ?_
    · obtain ⟨j, hj, rfl⟩ := List.mem_map.mp (List.mem_of_getElem? ex)
      refine br (fun h => ?_) (fun h => ?_)
      · refine ⟨by simp, by simp, by simp, by simp, by simp, by simp, by simp, ?_⟩
        refine pick_spec _ _ _ _ get_new (by simp) (by simp) (by simp [belows, below]) fun x hx => ?_
        obtain ⟨r, rfl, hr⟩ := unit_pick (x := x) hx
        exact hq _ _ hS.app hr
      · refine ⟨by simp, by simp, by simp, by simp, by simp, ?_⟩
        refine pick_spec _ _ _ _ get_new (by simp) (by simp) (by simp [belows, below]) fun x hx => ?_
        obtain ⟨r, rfl, hr⟩ := unit_pick (x := x) (by
          simp only [List.mem_cons, List.not_mem_nil, or_false] at hx ⊢
          rcases hx with h | h | h | h <;> simp [h])
        exact hq _ _ hS.app hr
    rw [hlen] at hu ⊢
    refine ⟨f, u, n, S.length, _, ?_, get_mid, hu, rfl⟩
    rw [List.getElem?_append_left (List.getElem?_eq_some_iff.mp hn).1]
    exact hn
  rintro ρ S ⟨f, u, n, m, a5, hn, hm, hu, rfl⟩
  refine onO_of hn ?_
  refine onO_of hm ?_
  exact ⟨by simp, by simp [below, belows, frs_belows], q f u hu⟩
theorem seed_range (v : List Int) : ((List.range v.length).map fun i => v.getD i 0 * ((i : Int) + 1)).sum = seedI v := by
  unfold seedI
  congr 1
  refine List.ext_getElem (by simp) fun i h1 h2 => ?_
  have : i < v.length := by simpa using h1
  simp [List.getD, this]
theorem law_own_draws_spec (v : List Int) (many : Nat) (Q : PV → Prop) (hv : Dok v) (hm : many ≤ 3000) (q : Q (.tup (((List.range many).map (dout v)).map PV.int))) : F__law_own_draws [.tup (v.map PV.int), .int many] Q := by
  have hvl := hv.len
  have hpos := hv.pos
  refine ⟨rfl, ?_⟩
  refine s_seq (fun ρ S => ρ = [some (.tup (v.map PV.int)), some (.int many), some (.int (seedI v)), some (.lst 0), none, none] ∧ S = [[]]) ?_ ?_
  · walk_at "w"
    rw [ints_len]
    refine ⟨by omega, by omega, ?_⟩
    rw [Int.toNat_natCast]
    refine pLcL_rng (fun (i : Nat) => PV.int (v.getD i 0 * ((i : Int) + 1))) (fun _ => trivial) (by omega) (fun i hi acc Qk hq => ?_) ?_
    · refine onO_of (atI_ints hi) ?_
      exact ⟨mulOk_sz (hv.sz _ (getD_in hi)) (b := 10) (sz_le (b := 100) (by omega) (by omega) (by decide)) (by decide), hq⟩
    · walk_at "w"
      refine onO_of (asInts_map2 (fun (i : Nat) => v.getD i 0 * ((i : Int) + 1)) _) ?_
      rw [seed_range]
      exact ⟨rfl, ⟨_, rfl⟩, by simp, rfl, rfl⟩
  rintro ρ S ⟨rfl, rfl⟩
  refine s_seq (fun ρ S => ∃ a2 a5, ρ = [some (.tup (v.map PV.int)), some (.int many), a2, some (.lst 0), none, a5] ∧ S = [((List.range many).map (dout v)).map PV.int]) ?_ ?_
  · refine ⟨by omega, by omega, ?_⟩
    rw [Int.toNat_natCast]
    refine pForL_range (fun j ρ S => ∃ a5, ρ = [some (.tup (v.map PV.int)), some (.int many), some (.int (dst v j)), some (.lst 0), none, a5] ∧ S = [((List.range j).map (dout v)).map PV.int]) ⟨_, rfl, rfl⟩ ?_ ?_
    · rintro j ρ S hj ⟨a5, rfl, rfl⟩
      refine s_seq (fun ρ S => ρ = [some (.tup (v.map PV.int)), some (.int many), some (.int (dst v (j + 1))), some (.lst 0), none, some (.int j)] ∧ S = [((List.range j).map (dout v)).map PV.int]) ?_ ?_
      · refine ⟨mulOk_r (by decide) (by decide), ?_⟩
        walk_at "w"
        rw [ints_len]
        refine ⟨by omega, ?_⟩
        rw [fmod_pos _ (by omega)]
        refine onO_of (atI_mod hpos j) ?_
        refine ⟨by decide, ?_⟩
        rw [fmod_pos _ (by decide)]
        exact ⟨rfl, rfl⟩
      rintro ρ S ⟨rfl, rfl⟩
      refine ⟨⟨by decide, by decide⟩, ?_⟩
      rw [fdiv_pos _ (by decide)]
      refine ⟨by simp; omega, _, rfl, ?_⟩
      rw [List.range_succ, List.map_append, List.map_append]
      rfl
    · rintro ρ S ⟨a5, rfl, rfl⟩
      exact ⟨_, _, rfl, rfl⟩
  rintro ρ S ⟨a2, a5, rfl, rfl⟩
  exact ⟨belows_ints _, q⟩
theorem outs_at (v : List Int) {many j : Nat} (h : j < many) : atI (((List.range many).map (dout v)).map PV.int) (j : Int) = some (.int (dout v j)) := by
  rw [atI_ints (by simpa using h)]
  simp [List.getD, h]
theorem law_own_start_spec (v : List Int) (d : Nat) (Q : PV → Prop) (hv : Dok v) (hd : d ≤ 1000) (q : Q (startP v 0 d)) : F__law_own_start [.tup (v.map PV.int), .int d] Q := by
  refine ⟨rfl, ?_⟩
  generalize hR : ((List.range (2 * d + 2)).map (dout v)).map PV.int = R
  have at_ : ∀ j, j < 2 * d + 2 → atI R (j : Int) = some (.int (dout v j)) := fun j h => by rw [← hR]; exact outs_at v h
  refine s_seq (fun ρ S => ρ = [some (.tup (v.map PV.int)), some (.int d), some (.tup R), some (.lst 0), some (.lst 1), none] ∧ S = [[], []]) ?_ ?_
  · refine ⟨mulOk_l (by decide) (by decide), by simp only [belows, below, belows_ints, Bool.and_true, Bool.true_and], ?_⟩
    rw [show (2 : Int) * (d : Int) + 2 = ((2 * d + 2 : Nat) : Int) by omega]
    refine law_own_draws_spec v (2 * d + 2) _ hv (by omega) ?_
    rw [hR]
    exact ⟨by simp, by simp, rfl, rfl⟩
  rintro ρ S ⟨rfl, rfl⟩
  refine s_seq (fun ρ S => ∃ a5, ρ = [some (.tup (v.map PV.int)), some (.int d), some (.tup R), some (.lst 0), some (.lst 1), a5] ∧ S = [frl (d + 1) (worthI v 0), frl (d + 1) (unitI v 0)]) ?_ ?_
  · refine ⟨by omega, by omega, ?_⟩
    rw [show ((d : Int) + 1).toNat = d + 1 by omega]
    refine pForL_range (fun j ρ S => ∃ a5, ρ = [some (.tup (v.map PV.int)), some (.int d), some (.tup R), some (.lst 0), some (.lst 1), a5] ∧ S = [frl j (worthI v 0), frl j (unitI v 0)]) ⟨_, rfl, rfl⟩ ?_ ?_
    · rintro j ρ S hj ⟨a5, rfl, rfl⟩
      have s100 : Sz 8000 (100 : Int) := (sz_le (n := 20) (b := 100) (by decide) (by decide) (by decide)).mono (by decide)
      refine s_seq (fun ρ S => ρ = [some (.tup (v.map PV.int)), some (.int d), some (.tup R), some (.lst 0), some (.lst 1), some (.int j)] ∧ S = [frl (j + 1) (worthI v 0), frl j (unitI v 0)]) ?_ ?_
      · refine ⟨mulOk_l (by decide) (by decide), ?_⟩
        refine onO_of (x := .int (dout v (2 * j))) (by rw [show (2 : Int) * (j : Int) = ((2 * j : Nat) : Int) by omega]; exact at_ _ (by omega)) ?_
        refine ⟨by decide, ?_⟩
        rw [fmod_pos _ (by decide)]
        refine ⟨rfl, law_fr_pos_spec _ _ _ (by decide) s100 ?_⟩
        refine ⟨by rw [frs_len]; omega, rfl, ?_⟩
        rw [frs_next]
        unfold worthI
        rw [Nat.zero_add]
        rfl
      rintro ρ S ⟨rfl, rfl⟩
      refine ⟨mulOk_l (by decide) (by decide), ?_⟩
      refine onO_of (x := .int (dout v (2 * j + 1))) (by rw [show (2 : Int) * (j : Int) + 1 = ((2 * j + 1 : Nat) : Int) by omega]; exact at_ _ (by omega)) ?_
      refine ⟨by decide, ?_⟩
      rw [fmod_pos _ (by decide)]
      refine ⟨rfl, law_fr_pos_spec _ _ _ (by decide) s100 ?_⟩
      refine ⟨by rw [frs_len]; omega, _, rfl, ?_⟩
      rw [frs_next (f := unitI v 0)]
      unfold unitI
      rw [Nat.zero_add]
      rfl
    · rintro ρ S ⟨a5, rfl, rfl⟩
      exact ⟨_, rfl, rfl⟩
  rintro ρ S ⟨a5, rfl, rfl⟩
  exact ⟨by simp, by simp [below, belows, frs_belows], q⟩
theorem law_own_hand_spec (v : List Int) (k : Nat) (f u : Nat → Rat) (Q : PV → Prop) (hv : Dok v) (hk : k ≤ 1000) (hu : ∀ i, i < k → RS 100 (u i)) (q : Q (.tup (frl k fun j => u j * partI v j))) : F__law_own_hand [.tup [.tup (frl k f), .tup (frl k u)], .tup (v.map PV.int)] Q := by
  have s100 : Sz 8000 (100 : Int) := (sz_le (n := 20) (b := 100) (by decide) (by decide) (by decide)).mono (by decide)
  refine ⟨rfl, ?_⟩
  generalize hR : ((List.range k).map (dout v)).map PV.int = R
  have at_ : ∀ j, j < k → atI R (j : Int) = some (.int (dout v j)) := fun j h => by rw [← hR]; exact outs_at v h
  have hRl : R.length = k := by rw [← hR]; simp
  refine s_seq (fun ρ S => ρ = [some (.tup [.tup (frl k f), .tup (frl k u)]), some (.tup (v.map PV.int)), some (.tup R), none] ∧ S = []) ?_ ?_
  · walk_at "w"
    rw [frs_len]
    refine ⟨by simp only [belows, below, belows_ints, Bool.and_true, Bool.true_and], ?_⟩
    refine law_own_draws_spec v k _ hv (by omega) ?_
    rw [hR]
    exact ⟨rfl, rfl⟩
  rintro ρ S ⟨rfl, rfl⟩
  walk_at "w"
  rw [hRl]
  refine ⟨by omega, by omega, ?_⟩
  rw [Int.toNat_natCast]
  refine pLcL_rng (fun j => fr (u j * partI v j)) (fun _ => trivial) (by omega) (fun j hj acc Qk hq => ?_) ?_
  · refine onO_of (frs_at hj) ?_
    refine onO_of (at_ j hj) ?_
    refine ⟨by decide, ?_⟩
    rw [fmod_pos _ (by decide)]
    refine ⟨rfl, law_fr_pos_spec _ _ _ (by decide) s100 ?_⟩
    exact ⟨rfl, law_times_spec _ _ _ (hu j hj) (rs_part v j) (by decide) hq⟩
  · walk_at "w"
    exact ⟨frs_belows, ⟨_, rfl⟩, by unfold below; exact frs_belows, q⟩
theorem law_own_page_spec (v : List Int) (d : Nat) (Q : PV → Prop) (hv : Dok v) (hd : d ≤ 1000) (q : Q (pageP v d)) : F__law_own_page [.tup (v.map PV.int), .int d] Q := by
  refine ⟨rfl, ?_⟩
  generalize hR : ((List.range (2 * d + 4)).map (dout v)).map PV.int = R
  have at_ : ∀ j, j < 2 * d + 4 → atI R (j : Int) = some (.int (dout v j)) := fun j h => by rw [← hR]; exact outs_at v h
  refine s_seq (fun ρ S => ρ = [some (.tup (v.map PV.int)), some (.int d), some (.tup R)] ∧ S = []) ?_ ?_
  · refine ⟨mulOk_l (by decide) (by decide), by simp only [belows, below, belows_ints, Bool.and_true, Bool.true_and], ?_⟩
    rw [show (2 : Int) * (d : Int) + 4 = ((2 * d + 4 : Nat) : Int) by omega]
    refine law_own_draws_spec v (2 * d + 4) _ hv (by omega) ?_
    rw [hR]
    exact ⟨rfl, rfl⟩
  rintro ρ S ⟨rfl, rfl⟩
  refine ⟨by simp only [belows, below, belows_ints, Bool.and_true, Bool.true_and], law_own_start_spec v d _ hv hd ?_⟩
  refine ⟨mulOk_l (by decide) (by decide), ?_⟩
  refine onO_of (x := .int (dout v (2 * (d + 1)))) (by rw [show (2 : Int) * (d : Int) + 2 = ((2 * (d + 1) : Nat) : Int) by omega]; exact at_ _ (by omega)) ?_
  refine ⟨by decide, ?_⟩
  rw [fmod_pos _ (by decide)]
  refine ⟨mulOk_l (by decide) (by decide), ?_⟩
  refine onO_of (x := .int (dout v (2 * (d + 1) + 1))) (by rw [show (2 : Int) * (d : Int) + 3 = ((2 * (d + 1) + 1 : Nat) : Int) by omega]; exact at_ _ (by omega)) ?_
  refine ⟨by decide, ?_⟩
  rw [fmod_pos _ (by decide)]
  have hb : below 0 (startP v 0 d) = true := dat_below (dat_start (n := 1) v 0 d hd)
  exact ⟨by simp, by simp [below, belows, hb], q⟩
theorem law_numbers_spec (Q : PV → Prop) (q : ∀ v, Dok v → Q (.tup (v.map PV.int))) : F__law_numbers [.bag] Q := by
  refine ⟨rfl, ?_⟩
  refine ⟨by simp, ?_⟩
  refine pick_new 1 60 (by simp) (by simp) (by simp only [AllIn, and_true]; decide) fun k k0 k1 => ?_
  refine ⟨by omega, by omega, ?_⟩
  refine pLcL_intsG 0 (10 ^ 33) (fun _ _ => trivial) _ (fun i x e acc S1 Qk hS hq => ?_) (by simp; omega) fun p G hp => ?_
  · walk_at "w"
    refine ⟨rfl, draw_spec _ _ (by decide) (by decide) fun r r0 r1 => ?_⟩
    refine ⟨rfl, law_ten_spec _ _ (by decide) (by decide) ?_⟩
    refine ⟨by simp, ?_⟩
    refine pick_new 1 (10 ^ 30) (by simp) (by simp) (by simp only [AllIn, and_true]; decide) fun y y0 y1 => ?_
    refine ⟨mulOk_l (by omega) (by omega), ?_⟩
    have h1 : 0 ≤ r * y := Int.mul_nonneg r0 (by omega)
    have h2 : r * y ≤ 1000 * 10 ^ 30 := Int.mul_le_mul (by omega) y1 (by omega) (by omega)
    exact hq _ _ hS.app (by omega) (by omega)
  · rw [List.length_map, List.length_range] at hp ⊢
    have e : nms k.toNat p = ((List.range k.toNat).map p).map PV.int := by simp [nms]
    rw [e]
    have hin : ∀ x ∈ (List.range k.toNat).map p, 0 ≤ x ∧ x ≤ 10 ^ 33 := fun x hx => by
      obtain ⟨i, hi, rfl⟩ := List.mem_map.mp hx
      exact hp i (List.mem_range.mp hi)
    walk_at "w"
    refine ⟨belows_ints _, ⟨_, rfl⟩, belows_ints _, q _ ⟨by simp; omega, by simp; omega, fun x hx => ?_⟩⟩
    exact sz_le (b := 10 ^ 33) (by have := hin x hx; omega) (hin x hx).2 (by decide)
theorem same2 {x y : PV} {Q : PV → Prop} (h : dat true 5 x = true) (hy : dat true 5 y = true) (e : x = y) (q : Q (.bl true)) : belows 0 [PV.tup [x, x], PV.tup [y, y]] = true ∧ F_same true 6 [PV.tup [x, x], PV.tup [y, y]] Q := by
  subst e
  refine ⟨by simp [belows, below, dat_below h], same_of rfl ?_ q⟩
  refine dat_tup (n := 5) (by simp) ?_
  simp [dats, h]
theorem dat_tupi {st : Bool} {n : Nat} {l : List Int} (h : l.length ≤ 100000) : dat st (n + 1) (.tup (l.map PV.int)) = true := dat_tup (by rw [ints_len]; exact h) (dats_ints l)
theorem rs_unit (v : List Int) (k j : Nat) : RS 100 (unitI v k j) := by
  unfold unitI
  exact rs_divInt (by decide) (sz_le (b := 100) (by omega) (by omega) (by decide)) (sz_le (b := 100) (by decide) (by decide) (by decide))
theorem unit_pos (v : List Int) (k j : Nat) : 0 ≤ unitI v k j := Rat.divInt_nonneg (by omega) (by decide)
theorem part_in (v : List Int) (j : Nat) (u : Rat) (h : 0 ≤ u) : (u * partI v j).abs ≤ u := by
  have hp : partI v j * 100 = ((dout v j % 201 - 100 : Int) : Rat) := by
    unfold partI
    rw [Rat.divInt_eq_div]
    have : ((100 : Int) : Rat) = 100 := rfl
    grind
  have h1 : ((dout v j % 201 - 100 : Int) : Rat) ≤ ((100 : Int) : Rat) := Rat.intCast_le_intCast.mpr (by omega)
  have h2 : ((-100 : Int) : Rat) ≤ ((dout v j % 201 - 100 : Int) : Rat) := Rat.intCast_le_intCast.mpr (by omega)
  have e1 : ((100 : Int) : Rat) = 100 := rfl
  have e2 : ((-100 : Int) : Rat) = -100 := rfl
  rw [e1] at h1
  rw [e2] at h2
  have h3 : 0 ≤ u * (1 - partI v j) := Rat.mul_nonneg h (by grind)
  have h4 : 0 ≤ u * (1 + partI v j) := Rat.mul_nonneg h (by grind)
  exact Rat.not_lt.mp (abs_le (by grind) (by grind))
theorem law_plain (ns : List Int) (hl : ns.length ≤ 63) : B_law noX { nx := fun _ _ => False, rt := fun r _ => r = .bl true } ((start0 N_law.length [.rol (ns.map PV.int)]).set 1 (some .bag)) [] := by
  generalize hw : (PV.rol (List.map PV.int ns)) = w
  refine s_seq (fun ρ S => ∃ a2 a3 a4 a5 a6 a7 a8, ρ = [some w, some .bag, a2, a3, a4, a5, a6, a7, a8]) ?_ ?_
  · refine ⟨by decide, by decide, ?_⟩
    refine pForL_range (fun j ρ S => ∃ a2 a3 a4 a5 a6 a7 a8, ρ = [some w, some .bag, a2, a3, a4, a5, a6, a7, a8]) ⟨_, _, _, _, _, _, _, rfl⟩ ?_ ?_
    · rintro j ρ S hj ⟨a2, a3, a4, a5, a6, a7, a8, rfl⟩
      refine s_seq (fun ρ S => ∃ (v o : List Int) (d many : Nat), Dok v ∧ Dok o ∧ d ≤ 6 ∧ many ≤ 40 ∧ ρ = [some w, some .bag, some (.int j), some (.tup (v.map PV.int)), some (.tup (o.map PV.int)), some (.int d), some (.int many), a7, a8]) ?_ ?_
      · refine ⟨rfl, law_numbers_spec _ fun v hv => ?_⟩
        refine ⟨rfl, law_numbers_spec _ fun o ho => ?_⟩
        refine ⟨rfl, draw_spec _ _ (by decide) (by decide) fun r r0 r1 => ?_⟩
        refine ⟨rfl, draw_spec _ _ (by decide) (by decide) fun t t0 t1 => ?_⟩
        refine ⟨by simp, ?_⟩
        refine ⟨rfl, ?_⟩
        refine ⟨v, o, r.toNat, t.toNat, hv, ho, by omega, by omega, ?_⟩
        rw [Int.toNat_of_nonneg r0, Int.toNat_of_nonneg t0]
        rfl
      rintro ρ S ⟨v, o, d, many, hv, ho, hd, hm, rfl⟩
      have bel : ∀ (v : List Int) (n : Nat), belows 0 [PV.tup (v.map PV.int), .int (n : Int)] = true := fun v n => by simp only [belows, below, belows_ints, Bool.and_true, Bool.true_and]
      generalize hR : (List.range many).map (dout v) = R
      have hRl : R.length ≤ 100000 := by rw [← hR]; simp; omega
      refine s_seq (fun ρ S => ρ = [some w, some .bag, some (.int j), some (.tup (v.map PV.int)), some (.tup (o.map PV.int)), some (.int d), some (.int many), some (.tup (R.map PV.int)), a8]) ?_ ?_
      · refine ⟨bel _ _, law_own_draws_spec v many _ hv (by omega) ?_⟩
        rw [hR]
        rfl
      rintro ρ S rfl
      refine s_seq (fun ρ S => ρ = [some w, some .bag, some (.int j), some (.tup (v.map PV.int)), some (.tup (o.map PV.int)), some (.int d), some (.int many), some (.tup (R.map PV.int)), a8]) ?_ ?_
      · refine ⟨bel _ _, draws_spec v many _ hv (by omega) ?_⟩
        rw [hR]
        refine ⟨by simp, rfl, bel _ _, draws_spec v many _ hv (by omega) ?_⟩
        rw [hR]
        refine ⟨by simp, by simp, ?_⟩
        exact same2 (dat_tupi hRl) (dat_tupi hRl) rfl rfl
      rintro ρ S rfl
      refine s_seq (fun ρ S => ρ = [some w, some .bag, some (.int j), some (.tup (v.map PV.int)), some (.tup (o.map PV.int)), some (.int d), some (.int many), some (startP v 0 d), a8]) ?_ ?_
      · exact ⟨bel _ _, law_own_start_spec v d _ hv (by omega) rfl⟩
      rintro ρ S rfl
      have ds : dat true 5 (startP v 0 d) = true := dat_start v 0 d (by omega)
      refine s_seq (fun ρ S => ρ = [some w, some .bag, some (.int j), some (.tup (v.map PV.int)), some (.tup (o.map PV.int)), some (.int d), some (.int many), some (startP v 0 d), a8]) ?_ ?_
      · refine ⟨bel _ _, drawn_start_spec v d _ hv (by omega) ?_⟩
        refine ⟨by simp, rfl, bel _ _, drawn_start_spec v d _ hv (by omega) ?_⟩
        refine ⟨by simp, by simp, ?_⟩
        exact same2 ds ds rfl rfl
      rintro ρ S rfl
      refine s_seq (fun ρ S => ∃ (f u : Nat → Rat), (∀ i, i < d + 1 → RS 100 (u i) ∧ 0 ≤ u i) ∧ ρ = [some w, some .bag, some (.int j), some (.tup (v.map PV.int)), some (.tup (o.map PV.int)), some (.int d), some (.int many), some (startP v 0 d), some (.tup [.tup (frl (d + 1) f), .tup (frl (d + 1) u)])]) ?_ ?_
      · refine ⟨rfl, draw_spec _ _ (by decide) (by decide) fun r r0 r1 => ?_⟩
        refine br (fun h => ?_) (fun h => ?_)
        · exact ⟨worthI v 0, unitI v 0, fun i _ => ⟨rs_unit v 0 i, unit_pos v 0 i⟩, rfl⟩
        · exact ⟨rfl, law_start_spec d _ (by omega) fun f u hu => ⟨f, u, fun i hi => ⟨(hu i hi).1.mono (by decide), (hu i hi).2⟩, rfl⟩⟩
      rintro ρ S ⟨f, u, hu, rfl⟩
      have belh : belows 0 [PV.tup [.tup (frl (d + 1) f), .tup (frl (d + 1) u)], .tup (o.map PV.int)] = true := by simp [belows, below, belows_ints, frs_belows]
      refine s_seq (fun ρ S => ρ = [some w, some .bag, some (.int j), some (.tup (v.map PV.int)), some (.tup (o.map PV.int)), some (.int d), some (.int many), some (.tup (frl (d + 1) fun i => u i * partI o i)), some (.tup [.tup (frl (d + 1) f), .tup (frl (d + 1) u)])]) ?_ ?_
      · exact ⟨belh, law_own_hand_spec o (d + 1) f u _ ho (by omega) (fun i hi => (hu i hi).1) rfl⟩
      rintro ρ S rfl
      have dh : dat true 5 (.tup (frl (d + 1) fun i => u i * partI o i)) = true := dat_tup (n := 4) (by rw [frs_len]; omega) frs_dats
      refine s_seq (fun ρ S => ρ = [some w, some .bag, some (.int j), some (.tup (v.map PV.int)), some (.tup (o.map PV.int)), some (.int d), some (.int many), some (.tup (frl (d + 1) fun i => u i * partI o i)), some (.tup [.tup (frl (d + 1) f), .tup (frl (d + 1) u)])]) ?_ ?_
      · refine ⟨by simp [belows, below, frs_belows], law_is_hand_spec (d + 1) f u _ _ (by omega) (fun i hi => ⟨(hu i hi).1, (RS.mul (hu i hi).1 (rs_part o i)).mono (by decide), part_in o i (u i) (hu i hi).2⟩) ?_⟩
        have hx : below 0 (PV.tup (frl (d + 1) f)) = true := by unfold below; exact frs_belows
        refine ⟨belh, drawn_hand_spec o _ (d + 1) u _ ho hx (by omega) (fun i hi => (hu i hi).1) ?_⟩
        refine ⟨by simp, rfl, belh, drawn_hand_spec o _ (d + 1) u _ ho hx (by omega) (fun i hi => (hu i hi).1) ?_⟩
        refine ⟨by simp, by simp, ?_⟩
        exact same2 dh dh rfl rfl
      rintro ρ S rfl
      refine s_seq (fun ρ S => ρ = [some w, some .bag, some (.int j), some (.tup (v.map PV.int)), some (.tup (o.map PV.int)), some (.int d), some (.int many), some (pageP v d), some (.tup [.tup (frl (d + 1) f), .tup (frl (d + 1) u)])]) ?_ ?_
      · exact ⟨bel _ _, law_own_page_spec v d _ hv (by omega) rfl⟩
      rintro ρ S rfl
      have dp : dat true 5 (pageP v d) = true := by
        have h4 : dat true 4 (startP v 0 d) = true := dat_start v 0 d (by omega)
        unfold pageP
        refine dat_tup (n := 4) (by simp) ?_
        simp [dats, h4]
        exact ⟨rfl, rfl, rfl, rfl⟩
      refine ⟨bel _ _, drawn_page_spec v d _ hv (by omega) ?_⟩
      refine ⟨by simp, rfl, bel _ _, drawn_page_spec v d _ hv (by omega) ?_⟩
      refine ⟨by simp, by simp, ?_⟩
      refine same2 dp dp rfl ?_
      exact ⟨_, _, _, _, _, _, _, rfl⟩
    · rintro ρ S ⟨a2, a3, a4, a5, a6, a7, a8, rfl⟩
      exact ⟨_, _, _, _, _, _, _, rfl⟩
  rintro ρ S ⟨a2, a3, a4, a5, a6, a7, a8, rfl⟩
  rfl
end Lawk88
namespace Lawk88
open PySem PySem.Spec PyProof.Rows L2 L2.P3
section
variable {P : Program} {w : World} {K : PySem.W.Frag} {mg : Str → Option Value} {base : Heap}
theorem ok_law (T : Txt K mg base) : FnOk P w K mg base CX0 9 T.f_law T.d_law ["script"] (spLawT (bagG T).tabs K) :=
  law_topT (bk := bagG T) (N := N_law) T.F_law sc_law (by decide) rfl (ok__law_bag T) (by decide) T.m__law_bag T.F__law_bag.kp T.b__law_bag
    (fun cdv A outer s H E hr => ⟨_, ps_set (i := 1) sc_law.nd rfl (Or.inl rfl) (pe_call (ok__law_bag T) (hr.mono (by decide)) (by rfl) T.m__law_bag T.F__law_bag.kp T.b__law_bag .nil pass0 (pa_cons (pv 0) pa_nil)), fun D σ H q => q⟩)
    (fun cdv A outer s H E hr => ok_law_body T cdv A outer s H E hr) law_plain
end
theorem all_mk {l : PySem.W.OpenLaw} {w : World} {K : PySem.W.Frag} {h : Heap} {mg : Str → Option Value} {fa : Addr} (X : K.In h) (G : h.Ns mainGlobals mg) (hfa : mg "law" = some (.ref fa))
    {C_Drawer : Addr} (aC_Drawer : PySem.W.nsIn K mainGlobals "Drawer" = some (some (.ref C_Drawer))) (pg_Drawer : PySem.W.plainGet K C_Drawer Str.empty = true) (hd_Drawer : PySem.W.hasDictIn K C_Drawer = true) (po_Drawer : PySem.W.plainOver K C_Drawer = true) (sa_Drawer : PySem.W.findIn K (.ref C_Drawer) "__setattr__" = some (some (.builtin "object.__setattr__")))
    (nf0_Drawer : PySem.W.findIn K (.ref C_Drawer) "numbers" = some none)
    (nf1_Drawer : PySem.W.findIn K (.ref C_Drawer) "place" = some none)
    (nf2_Drawer : PySem.W.findIn K (.ref C_Drawer) "state" = some none)
    (mk_Drawer : PySem.W.makesIn K C_Drawer = true) (kc_Drawer : PySem.W.keepIn K (.ref C_Drawer) = true)
    {f_0 : Addr} {oc_0 kV_0 dc_0 pm_0 cd_0 ct_0 : Value} {od_0 an_0 : Option Addr} {sl_0 : Array (Option Value)}
    (a_0 : PySem.W.nsIn K mainGlobals "frac" = some (some (.ref f_0))) (l_0 : K.lookup f_0 = some ⟨oc_0, od_0, .func (PySem.W.fnOf "frac" "frac" (defArgs s_frac) (defBody s_frac) (defScope s_frac) .none kV_0 dc_0 pm_0 an_0 cd_0 ct_0), sl_0⟩) (c_0 : PySem.W.codeIn K cd_0 "frac" = true) (k_0 : PySem.W.keepIn K (.ref f_0) = true)
    {f_1 : Addr} {oc_1 kV_1 dc_1 pm_1 cd_1 ct_1 : Value} {od_1 an_1 : Option Addr} {sl_1 : Array (Option Value)}
    (a_1 : PySem.W.nsIn K mainGlobals "times" = some (some (.ref f_1))) (l_1 : K.lookup f_1 = some ⟨oc_1, od_1, .func (PySem.W.fnOf "times" "times" (defArgs s_times) (defBody s_times) (defScope s_times) .none kV_1 dc_1 pm_1 an_1 cd_1 ct_1), sl_1⟩) (c_1 : PySem.W.codeIn K cd_1 "times" = true) (k_1 : PySem.W.keepIn K (.ref f_1) = true)
    {f_2 : Addr} {oc_2 kV_2 dc_2 pm_2 ct_2 : Value} {od_2 an_2 : Option Addr} {sl_2 : Array (Option Value)} {tc_2 tp_2 : Addr} {ec_2 : Value} {dd_2 : Option Addr} {vs_2 : Array Value} {sc_2 : Array (Option Value)}
    (a_2 : PySem.W.findIn K (.ref C_Drawer) "__init__" = some (some (.ref f_2))) (i_2 : PySem.W.isFn K (.ref f_2) = true) (l_2 : K.lookup f_2 = some ⟨oc_2, od_2, .func (PySem.W.fnOf "__init__" "Drawer.__init__" (defArgs s_Drawer_M_init) (defBody s_Drawer_M_init) (defScope s_Drawer_M_init) .none kV_2 dc_2 pm_2 an_2 (.ref tc_2) ct_2), sl_2⟩) (c_2 : PySem.W.codeIn K (.ref tc_2) "Drawer.__init__" = true) (k_2 : PySem.W.keepIn K (.ref f_2) = true)
    (cc_2 : K.lookup tc_2 = some ⟨ec_2, dd_2, .fields vs_2, sc_2⟩) (cp_2 : vs_2[11]? = some (.ref tp_2)) (ch_2 : PySem.W.codeHdIn K tc_2 tp_2 = true) (cn_2 : K.lookup tp_2 = none)
    {f_3 : Addr} {oc_3 kV_3 dc_3 pm_3 cd_3 ct_3 : Value} {od_3 an_3 : Option Addr} {sl_3 : Array (Option Value)}
    (a_3 : PySem.W.findIn K (.ref C_Drawer) "draw" = some (some (.ref f_3))) (i_3 : PySem.W.isFn K (.ref f_3) = true) (l_3 : K.lookup f_3 = some ⟨oc_3, od_3, .func (PySem.W.fnOf "draw" "Drawer.draw" (defArgs s_Drawer_M_draw) (defBody s_Drawer_M_draw) (defScope s_Drawer_M_draw) .none kV_3 dc_3 pm_3 an_3 cd_3 ct_3), sl_3⟩) (c_3 : PySem.W.codeIn K cd_3 "Drawer.draw" = true) (k_3 : PySem.W.keepIn K (.ref f_3) = true)
    {f_4 : Addr} {oc_4 kV_4 dc_4 pm_4 cd_4 ct_4 : Value} {od_4 an_4 : Option Addr} {sl_4 : Array (Option Value)}
    (a_4 : PySem.W.nsIn K mainGlobals "draws" = some (some (.ref f_4))) (l_4 : K.lookup f_4 = some ⟨oc_4, od_4, .func (PySem.W.fnOf "draws" "draws" (defArgs s_draws) (defBody s_draws) (defScope s_draws) .none kV_4 dc_4 pm_4 an_4 cd_4 ct_4), sl_4⟩) (c_4 : PySem.W.codeIn K cd_4 "draws" = true) (k_4 : PySem.W.keepIn K (.ref f_4) = true)
    {f_5 : Addr} {oc_5 kV_5 dc_5 pm_5 cd_5 ct_5 : Value} {od_5 an_5 : Option Addr} {sl_5 : Array (Option Value)}
    (a_5 : PySem.W.nsIn K mainGlobals "start_by" = some (some (.ref f_5))) (l_5 : K.lookup f_5 = some ⟨oc_5, od_5, .func (PySem.W.fnOf "start_by" "start_by" (defArgs s_start_by) (defBody s_start_by) (defScope s_start_by) .none kV_5 dc_5 pm_5 an_5 cd_5 ct_5), sl_5⟩) (c_5 : PySem.W.codeIn K cd_5 "start_by" = true) (k_5 : PySem.W.keepIn K (.ref f_5) = true)
    {f_6 : Addr} {oc_6 kV_6 dc_6 pm_6 cd_6 ct_6 : Value} {od_6 an_6 : Option Addr} {sl_6 : Array (Option Value)}
    (a_6 : PySem.W.nsIn K mainGlobals "drawn_start" = some (some (.ref f_6))) (l_6 : K.lookup f_6 = some ⟨oc_6, od_6, .func (PySem.W.fnOf "drawn_start" "drawn_start" (defArgs s_drawn_start) (defBody s_drawn_start) (defScope s_drawn_start) .none kV_6 dc_6 pm_6 an_6 cd_6 ct_6), sl_6⟩) (c_6 : PySem.W.codeIn K cd_6 "drawn_start" = true) (k_6 : PySem.W.keepIn K (.ref f_6) = true)
    {f_7 : Addr} {oc_7 kV_7 dc_7 pm_7 cd_7 ct_7 : Value} {od_7 an_7 : Option Addr} {sl_7 : Array (Option Value)}
    (a_7 : PySem.W.nsIn K mainGlobals "drawn_hand" = some (some (.ref f_7))) (l_7 : K.lookup f_7 = some ⟨oc_7, od_7, .func (PySem.W.fnOf "drawn_hand" "drawn_hand" (defArgs s_drawn_hand) (defBody s_drawn_hand) (defScope s_drawn_hand) .none kV_7 dc_7 pm_7 an_7 cd_7 ct_7), sl_7⟩) (c_7 : PySem.W.codeIn K cd_7 "drawn_hand" = true) (k_7 : PySem.W.keepIn K (.ref f_7) = true)
    {f_8 : Addr} {oc_8 kV_8 dc_8 pm_8 cd_8 ct_8 : Value} {od_8 an_8 : Option Addr} {sl_8 : Array (Option Value)}
    (a_8 : PySem.W.nsIn K mainGlobals "drawn_page" = some (some (.ref f_8))) (l_8 : K.lookup f_8 = some ⟨oc_8, od_8, .func (PySem.W.fnOf "drawn_page" "drawn_page" (defArgs s_drawn_page) (defBody s_drawn_page) (defScope s_drawn_page) .none kV_8 dc_8 pm_8 an_8 cd_8 ct_8), sl_8⟩) (c_8 : PySem.W.codeIn K cd_8 "drawn_page" = true) (k_8 : PySem.W.keepIn K (.ref f_8) = true)
    {f_9 : Addr} {oc_9 kV_9 dc_9 pm_9 cd_9 ct_9 : Value} {od_9 an_9 : Option Addr} {sl_9 : Array (Option Value)}
    (a_9 : PySem.W.nsIn K mainGlobals "_law_bag" = some (some (.ref f_9))) (l_9 : K.lookup f_9 = some ⟨oc_9, od_9, .func (PySem.W.fnOf "_law_bag" "_law_bag" (defArgs s__law_bag) (defBody s__law_bag) (defScope s__law_bag) .none kV_9 dc_9 pm_9 an_9 cd_9 ct_9), sl_9⟩) (c_9 : PySem.W.codeIn K cd_9 "_law_bag" = true) (k_9 : PySem.W.keepIn K (.ref f_9) = true)
    {f_10 : Addr} {oc_10 kV_10 dc_10 pm_10 cd_10 ct_10 : Value} {od_10 an_10 : Option Addr} {sl_10 : Array (Option Value)}
    (a_10 : PySem.W.nsIn K mainGlobals "_law_draw" = some (some (.ref f_10))) (l_10 : K.lookup f_10 = some ⟨oc_10, od_10, .func (PySem.W.fnOf "_law_draw" "_law_draw" (defArgs s__law_draw) (defBody s__law_draw) (defScope s__law_draw) .none kV_10 dc_10 pm_10 an_10 cd_10 ct_10), sl_10⟩) (c_10 : PySem.W.codeIn K cd_10 "_law_draw" = true) (k_10 : PySem.W.keepIn K (.ref f_10) = true)
    {f_11 : Addr} {oc_11 kV_11 dc_11 pm_11 cd_11 ct_11 : Value} {od_11 an_11 : Option Addr} {sl_11 : Array (Option Value)}
    (a_11 : PySem.W.nsIn K mainGlobals "_law_pick" = some (some (.ref f_11))) (l_11 : K.lookup f_11 = some ⟨oc_11, od_11, .func (PySem.W.fnOf "_law_pick" "_law_pick" (defArgs s__law_pick) (defBody s__law_pick) (defScope s__law_pick) .none kV_11 dc_11 pm_11 an_11 cd_11 ct_11), sl_11⟩) (c_11 : PySem.W.codeIn K cd_11 "_law_pick" = true) (k_11 : PySem.W.keepIn K (.ref f_11) = true)
    {f_12 : Addr} {oc_12 kV_12 dc_12 pm_12 cd_12 ct_12 : Value} {od_12 an_12 : Option Addr} {sl_12 : Array (Option Value)}
    (a_12 : PySem.W.nsIn K mainGlobals "_law_same" = some (some (.ref f_12))) (l_12 : K.lookup f_12 = some ⟨oc_12, od_12, .func (PySem.W.fnOf "_law_same" "_law_same" (defArgs s__law_same) (defBody s__law_same) (defScope s__law_same) .none kV_12 dc_12 pm_12 an_12 cd_12 ct_12), sl_12⟩) (c_12 : PySem.W.codeIn K cd_12 "_law_same" = true) (k_12 : PySem.W.keepIn K (.ref f_12) = true)
    {f_13 : Addr} {oc_13 kV_13 dc_13 pm_13 cd_13 ct_13 : Value} {od_13 an_13 : Option Addr} {sl_13 : Array (Option Value)}
    (a_13 : PySem.W.nsIn K mainGlobals "_law_gcd" = some (some (.ref f_13))) (l_13 : K.lookup f_13 = some ⟨oc_13, od_13, .func (PySem.W.fnOf "_law_gcd" "_law_gcd" (defArgs s__law_gcd) (defBody s__law_gcd) (defScope s__law_gcd) .none kV_13 dc_13 pm_13 an_13 cd_13 ct_13), sl_13⟩) (c_13 : PySem.W.codeIn K cd_13 "_law_gcd" = true) (k_13 : PySem.W.keepIn K (.ref f_13) = true)
    {f_14 : Addr} {oc_14 kV_14 dc_14 pm_14 cd_14 ct_14 : Value} {od_14 an_14 : Option Addr} {sl_14 : Array (Option Value)}
    (a_14 : PySem.W.nsIn K mainGlobals "_law_fr" = some (some (.ref f_14))) (l_14 : K.lookup f_14 = some ⟨oc_14, od_14, .func (PySem.W.fnOf "_law_fr" "_law_fr" (defArgs s__law_fr) (defBody s__law_fr) (defScope s__law_fr) .none kV_14 dc_14 pm_14 an_14 cd_14 ct_14), sl_14⟩) (c_14 : PySem.W.codeIn K cd_14 "_law_fr" = true) (k_14 : PySem.W.keepIn K (.ref f_14) = true)
    {f_15 : Addr} {oc_15 kV_15 dc_15 pm_15 cd_15 ct_15 : Value} {od_15 an_15 : Option Addr} {sl_15 : Array (Option Value)}
    (a_15 : PySem.W.nsIn K mainGlobals "_law_times" = some (some (.ref f_15))) (l_15 : K.lookup f_15 = some ⟨oc_15, od_15, .func (PySem.W.fnOf "_law_times" "_law_times" (defArgs s__law_times) (defBody s__law_times) (defScope s__law_times) .none kV_15 dc_15 pm_15 an_15 cd_15 ct_15), sl_15⟩) (c_15 : PySem.W.codeIn K cd_15 "_law_times" = true) (k_15 : PySem.W.keepIn K (.ref f_15) = true)
    {f_16 : Addr} {oc_16 kV_16 dc_16 pm_16 cd_16 ct_16 : Value} {od_16 an_16 : Option Addr} {sl_16 : Array (Option Value)}
    (a_16 : PySem.W.nsIn K mainGlobals "_law_less" = some (some (.ref f_16))) (l_16 : K.lookup f_16 = some ⟨oc_16, od_16, .func (PySem.W.fnOf "_law_less" "_law_less" (defArgs s__law_less) (defBody s__law_less) (defScope s__law_less) .none kV_16 dc_16 pm_16 an_16 cd_16 ct_16), sl_16⟩) (c_16 : PySem.W.codeIn K cd_16 "_law_less" = true) (k_16 : PySem.W.keepIn K (.ref f_16) = true)
    {f_17 : Addr} {oc_17 kV_17 dc_17 pm_17 cd_17 ct_17 : Value} {od_17 an_17 : Option Addr} {sl_17 : Array (Option Value)}
    (a_17 : PySem.W.nsIn K mainGlobals "_law_ten" = some (some (.ref f_17))) (l_17 : K.lookup f_17 = some ⟨oc_17, od_17, .func (PySem.W.fnOf "_law_ten" "_law_ten" (defArgs s__law_ten) (defBody s__law_ten) (defScope s__law_ten) .none kV_17 dc_17 pm_17 an_17 cd_17 ct_17), sl_17⟩) (c_17 : PySem.W.codeIn K cd_17 "_law_ten" = true) (k_17 : PySem.W.keepIn K (.ref f_17) = true)
    {f_18 : Addr} {oc_18 kV_18 dc_18 pm_18 cd_18 ct_18 : Value} {od_18 an_18 : Option Addr} {sl_18 : Array (Option Value)}
    (a_18 : PySem.W.nsIn K mainGlobals "_law_is_whole" = some (some (.ref f_18))) (l_18 : K.lookup f_18 = some ⟨oc_18, od_18, .func (PySem.W.fnOf "_law_is_whole" "_law_is_whole" (defArgs s__law_is_whole) (defBody s__law_is_whole) (defScope s__law_is_whole) .none kV_18 dc_18 pm_18 an_18 cd_18 ct_18), sl_18⟩) (c_18 : PySem.W.codeIn K cd_18 "_law_is_whole" = true) (k_18 : PySem.W.keepIn K (.ref f_18) = true)
    {f_19 : Addr} {oc_19 kV_19 dc_19 pm_19 cd_19 ct_19 : Value} {od_19 an_19 : Option Addr} {sl_19 : Array (Option Value)}
    (a_19 : PySem.W.nsIn K mainGlobals "_law_is_fraction" = some (some (.ref f_19))) (l_19 : K.lookup f_19 = some ⟨oc_19, od_19, .func (PySem.W.fnOf "_law_is_fraction" "_law_is_fraction" (defArgs s__law_is_fraction) (defBody s__law_is_fraction) (defScope s__law_is_fraction) .none kV_19 dc_19 pm_19 an_19 cd_19 ct_19), sl_19⟩) (c_19 : PySem.W.codeIn K cd_19 "_law_is_fraction" = true) (k_19 : PySem.W.keepIn K (.ref f_19) = true)
    {f_20 : Addr} {oc_20 kV_20 dc_20 pm_20 cd_20 ct_20 : Value} {od_20 an_20 : Option Addr} {sl_20 : Array (Option Value)}
    (a_20 : PySem.W.nsIn K mainGlobals "_law_is_hand" = some (some (.ref f_20))) (l_20 : K.lookup f_20 = some ⟨oc_20, od_20, .func (PySem.W.fnOf "_law_is_hand" "_law_is_hand" (defArgs s__law_is_hand) (defBody s__law_is_hand) (defScope s__law_is_hand) .none kV_20 dc_20 pm_20 an_20 cd_20 ct_20), sl_20⟩) (c_20 : PySem.W.codeIn K cd_20 "_law_is_hand" = true) (k_20 : PySem.W.keepIn K (.ref f_20) = true)
    {f_21 : Addr} {oc_21 kV_21 dc_21 pm_21 cd_21 ct_21 : Value} {od_21 an_21 : Option Addr} {sl_21 : Array (Option Value)}
    (a_21 : PySem.W.nsIn K mainGlobals "_law_half" = some (some (.ref f_21))) (l_21 : K.lookup f_21 = some ⟨oc_21, od_21, .func (PySem.W.fnOf "_law_half" "_law_half" (defArgs s__law_half) (defBody s__law_half) (defScope s__law_half) .none kV_21 dc_21 pm_21 an_21 cd_21 ct_21), sl_21⟩) (c_21 : PySem.W.codeIn K cd_21 "_law_half" = true) (k_21 : PySem.W.keepIn K (.ref f_21) = true)
    {f_22 : Addr} {oc_22 kV_22 dc_22 pm_22 cd_22 ct_22 : Value} {od_22 an_22 : Option Addr} {sl_22 : Array (Option Value)}
    (a_22 : PySem.W.nsIn K mainGlobals "_law_start" = some (some (.ref f_22))) (l_22 : K.lookup f_22 = some ⟨oc_22, od_22, .func (PySem.W.fnOf "_law_start" "_law_start" (defArgs s__law_start) (defBody s__law_start) (defScope s__law_start) .none kV_22 dc_22 pm_22 an_22 cd_22 ct_22), sl_22⟩) (c_22 : PySem.W.codeIn K cd_22 "_law_start" = true) (k_22 : PySem.W.keepIn K (.ref f_22) = true)
    {f_23 : Addr} {oc_23 kV_23 dc_23 pm_23 cd_23 ct_23 : Value} {od_23 an_23 : Option Addr} {sl_23 : Array (Option Value)}
    (a_23 : PySem.W.nsIn K mainGlobals "_law_own_draws" = some (some (.ref f_23))) (l_23 : K.lookup f_23 = some ⟨oc_23, od_23, .func (PySem.W.fnOf "_law_own_draws" "_law_own_draws" (defArgs s__law_own_draws) (defBody s__law_own_draws) (defScope s__law_own_draws) .none kV_23 dc_23 pm_23 an_23 cd_23 ct_23), sl_23⟩) (c_23 : PySem.W.codeIn K cd_23 "_law_own_draws" = true) (k_23 : PySem.W.keepIn K (.ref f_23) = true)
    {f_24 : Addr} {oc_24 kV_24 dc_24 pm_24 cd_24 ct_24 : Value} {od_24 an_24 : Option Addr} {sl_24 : Array (Option Value)}
    (a_24 : PySem.W.nsIn K mainGlobals "_law_own_start" = some (some (.ref f_24))) (l_24 : K.lookup f_24 = some ⟨oc_24, od_24, .func (PySem.W.fnOf "_law_own_start" "_law_own_start" (defArgs s__law_own_start) (defBody s__law_own_start) (defScope s__law_own_start) .none kV_24 dc_24 pm_24 an_24 cd_24 ct_24), sl_24⟩) (c_24 : PySem.W.codeIn K cd_24 "_law_own_start" = true) (k_24 : PySem.W.keepIn K (.ref f_24) = true)
    {f_25 : Addr} {oc_25 kV_25 dc_25 pm_25 cd_25 ct_25 : Value} {od_25 an_25 : Option Addr} {sl_25 : Array (Option Value)}
    (a_25 : PySem.W.nsIn K mainGlobals "_law_own_hand" = some (some (.ref f_25))) (l_25 : K.lookup f_25 = some ⟨oc_25, od_25, .func (PySem.W.fnOf "_law_own_hand" "_law_own_hand" (defArgs s__law_own_hand) (defBody s__law_own_hand) (defScope s__law_own_hand) .none kV_25 dc_25 pm_25 an_25 cd_25 ct_25), sl_25⟩) (c_25 : PySem.W.codeIn K cd_25 "_law_own_hand" = true) (k_25 : PySem.W.keepIn K (.ref f_25) = true)
    {f_26 : Addr} {oc_26 kV_26 dc_26 pm_26 cd_26 ct_26 : Value} {od_26 an_26 : Option Addr} {sl_26 : Array (Option Value)}
    (a_26 : PySem.W.nsIn K mainGlobals "_law_own_page" = some (some (.ref f_26))) (l_26 : K.lookup f_26 = some ⟨oc_26, od_26, .func (PySem.W.fnOf "_law_own_page" "_law_own_page" (defArgs s__law_own_page) (defBody s__law_own_page) (defScope s__law_own_page) .none kV_26 dc_26 pm_26 an_26 cd_26 ct_26), sl_26⟩) (c_26 : PySem.W.codeIn K cd_26 "_law_own_page" = true) (k_26 : PySem.W.keepIn K (.ref f_26) = true)
    {f_27 : Addr} {oc_27 kV_27 dc_27 pm_27 cd_27 ct_27 : Value} {od_27 an_27 : Option Addr} {sl_27 : Array (Option Value)}
    (a_27 : PySem.W.nsIn K mainGlobals "_law_numbers" = some (some (.ref f_27))) (l_27 : K.lookup f_27 = some ⟨oc_27, od_27, .func (PySem.W.fnOf "_law_numbers" "_law_numbers" (defArgs s__law_numbers) (defBody s__law_numbers) (defScope s__law_numbers) .none kV_27 dc_27 pm_27 an_27 cd_27 ct_27), sl_27⟩) (c_27 : PySem.W.codeIn K cd_27 "_law_numbers" = true) (k_27 : PySem.W.keepIn K (.ref f_27) = true)
    {f_28 : Addr} {oc_28 kV_28 dc_28 pm_28 cd_28 ct_28 : Value} {od_28 an_28 : Option Addr} {sl_28 : Array (Option Value)}
    (a_28 : PySem.W.nsIn K mainGlobals "law" = some (some (.ref f_28))) (l_28 : K.lookup f_28 = some ⟨oc_28, od_28, .func (PySem.W.fnOf "law" "law" (defArgs s_law) (defBody s_law) (defScope s_law) .none kV_28 dc_28 pm_28 an_28 cd_28 ct_28), sl_28⟩) (c_28 : PySem.W.codeIn K cd_28 "law" = true) (k_28 : PySem.W.keepIn K (.ref f_28) = true)
    (z_abs : PySem.W.nsIn K mainGlobals "abs" = some none)
    (z_bool : PySem.W.nsIn K mainGlobals "bool" = some none)
    (z_enumerate : PySem.W.nsIn K mainGlobals "enumerate" = some none)
    (z_int : PySem.W.nsIn K mainGlobals "int" = some none)
    (z_isinstance : PySem.W.nsIn K mainGlobals "isinstance" = some none)
    (z_len : PySem.W.nsIn K mainGlobals "len" = some none)
    (z_range : PySem.W.nsIn K mainGlobals "range" = some none)
    (z_str : PySem.W.nsIn K mainGlobals "str" = some none)
    (z_sum : PySem.W.nsIn K mainGlobals "sum" = some none)
    (z_tuple : PySem.W.nsIn K mainGlobals "tuple" = some none)
    {t_CUT : Tok} (q_CUT : PySem.W.nsIn K mainGlobals "CUT" = some (some (.int 65536 t_CUT)))
    {t_FACTOR : Tok} (q_FACTOR : PySem.W.nsIn K mainGlobals "FACTOR" = some (some (.int 1103515245 t_FACTOR)))
    {t_MORE : Tok} (q_MORE : PySem.W.nsIn K mainGlobals "MORE" = some (some (.int 12345 t_MORE)))
    {t_ROUND : Tok} (q_ROUND : PySem.W.nsIn K mainGlobals "ROUND" = some (some (.int 2147483648 t_ROUND)))
    (q_gcd : PySem.W.nsIn K mainGlobals "gcd" = some (some (.builtin "math.gcd")))
    (o_2 : h.get? tp_2 = some { cls := .none, data := .fields #[] }) :
    LamX.LawAtS l w K CX0 9 63 "script" mg fa h := by
  have e := hfa.symm.trans (PySem.W.mg_of X G a_28)
  cases e
  exact ⟨_, [(tc_2, tp_2)], spLawG (List.map (·.2) [(tc_2, tp_2)]) K, List.forall_mem_cons.mpr ⟨o_2, fun _ hp => nomatch hp⟩, List.forall_mem_cons.mpr ⟨cn_2, fun _ hp => nomatch hp⟩, List.forall_mem_cons.mpr ⟨PySem.W.codeHd_of_K X ch_2, fun _ hp => nomatch hp⟩, fun s v => .of_eq rfl, fun H a ns hl _ hT hS => spLawG_start hT hS hl, fun base _ _ TB => law_lock (ok_law (txt_mk X G base aC_Drawer pg_Drawer hd_Drawer po_Drawer sa_Drawer nf0_Drawer nf1_Drawer nf2_Drawer mk_Drawer kc_Drawer a_0 l_0 c_0 k_0 a_1 l_1 c_1 k_1 a_2 i_2 l_2 c_2 k_2 cc_2 cp_2 ch_2 cn_2 a_3 i_3 l_3 c_3 k_3 a_4 l_4 c_4 k_4 a_5 l_5 c_5 k_5 a_6 l_6 c_6 k_6 a_7 l_7 c_7 k_7 a_8 l_8 c_8 k_8 a_9 l_9 c_9 k_9 a_10 l_10 c_10 k_10 a_11 l_11 c_11 k_11 a_12 l_12 c_12 k_12 a_13 l_13 c_13 k_13 a_14 l_14 c_14 k_14 a_15 l_15 c_15 k_15 a_16 l_16 c_16 k_16 a_17 l_17 c_17 k_17 a_18 l_18 c_18 k_18 a_19 l_19 c_19 k_19 a_20 l_20 c_20 k_20 a_21 l_21 c_21 k_21 a_22 l_22 c_22 k_22 a_23 l_23 c_23 k_23 a_24 l_24 c_24 k_24 a_25 l_25 c_25 k_25 a_26 l_26 c_26 k_26 a_27 l_27 c_27 k_27 a_28 l_28 c_28 k_28 z_abs z_bool z_enumerate z_int z_isinstance z_len z_range z_str z_sum z_tuple q_CUT q_FACTOR q_MORE q_ROUND q_gcd TB))⟩
end Lawk88
local macro_rules | `(tactic| o_head ($f:ident $k $a $q)) => `(tactic| o_head (PySem.W.kmHook $k $a $q [65, 72]))
set_option maxHeartbeats 0 in
theorem PySem.Challenge.cw_lastfigure_k88_drawn_cases_holds : PySem.Challenge.rw_lastfigure_k88_drawn_cases.Holds := by
  w_on; o_law; k_head; (case hw => w_witness2)
  k_fill
  refine L2.P3.walk_ofAll (l := PySem.Challenge.rw_lastfigure_k88_drawn_cases) (n := 63) (k := 9) (x := "script") (CX := fun _ => L2.CX0) rfl (by decide) rfl ⟨rfl, by decide, by decide⟩ (fun w h Y => PySem.W.km_in_of Y) ?F (fun _ _ _ _ _ h => h)
  case F =>
    intro w mg fa h Y KX G hmg own
    refine' Lawk88.all_mk KX G hmg ?aC_Drawer ?pg_Drawer ?hd_Drawer ?po_Drawer ?sa_Drawer ?nf0_Drawer ?nf1_Drawer ?nf2_Drawer ?mk_Drawer ?kc_Drawer ?a_0 ?l_0 ?c_0 ?k_0 ?a_1 ?l_1 ?c_1 ?k_1 ?a_2 ?i_2 ?l_2 ?c_2 ?k_2 ?cc_2 ?cp_2 ?ch_2 ?cn_2 ?a_3 ?i_3 ?l_3 ?c_3 ?k_3 ?a_4 ?l_4 ?c_4 ?k_4 ?a_5 ?l_5 ?c_5 ?k_5 ?a_6 ?l_6 ?c_6 ?k_6 ?a_7 ?l_7 ?c_7 ?k_7 ?a_8 ?l_8 ?c_8 ?k_8 ?a_9 ?l_9 ?c_9 ?k_9 ?a_10 ?l_10 ?c_10 ?k_10 ?a_11 ?l_11 ?c_11 ?k_11 ?a_12 ?l_12 ?c_12 ?k_12 ?a_13 ?l_13 ?c_13 ?k_13 ?a_14 ?l_14 ?c_14 ?k_14 ?a_15 ?l_15 ?c_15 ?k_15 ?a_16 ?l_16 ?c_16 ?k_16 ?a_17 ?l_17 ?c_17 ?k_17 ?a_18 ?l_18 ?c_18 ?k_18 ?a_19 ?l_19 ?c_19 ?k_19 ?a_20 ?l_20 ?c_20 ?k_20 ?a_21 ?l_21 ?c_21 ?k_21 ?a_22 ?l_22 ?c_22 ?k_22 ?a_23 ?l_23 ?c_23 ?k_23 ?a_24 ?l_24 ?c_24 ?k_24 ?a_25 ?l_25 ?c_25 ?k_25 ?a_26 ?l_26 ?c_26 ?k_26 ?a_27 ?l_27 ?c_27 ?k_27 ?a_28 ?l_28 ?c_28 ?k_28 ?z_abs ?z_bool ?z_enumerate ?z_int ?z_isinstance ?z_len ?z_range ?z_str ?z_sum ?z_tuple ?q_CUT ?q_FACTOR ?q_MORE ?q_ROUND ?q_gcd ?o_2
    (case aC_Drawer => k_is); (case pg_Drawer => k_is); (case hd_Drawer => k_is); (case po_Drawer => k_is); (case sa_Drawer => k_is); (case nf0_Drawer => k_is); (case nf1_Drawer => k_is); (case nf2_Drawer => k_is); (case mk_Drawer => k_is); (case kc_Drawer => k_is); (case a_0 => k_is); (case l_0 => k_is); (case c_0 => k_is); (case k_0 => k_is); (case a_1 => k_is); (case l_1 => k_is); (case c_1 => k_is); (case k_1 => k_is); (case a_2 => k_is); (case i_2 => k_is); (case l_2 => k_is); (case c_2 => k_is); (case k_2 => k_is); (case cc_2 => k_is); (case cp_2 => rfl); (case ch_2 => kernel_rfl); (case cn_2 => kernel_rfl); (case a_3 => k_is); (case i_3 => k_is); (case l_3 => k_is); (case c_3 => k_is); (case k_3 => k_is); (case a_4 => k_is); (case l_4 => k_is); (case c_4 => k_is); (case k_4 => k_is); (case a_5 => k_is); (case l_5 => k_is); (case c_5 => k_is); (case k_5 => k_is); (case a_6 => k_is); (case l_6 => k_is); (case c_6 => k_is); (case k_6 => k_is); (case a_7 => k_is); (case l_7 => k_is); (case c_7 => k_is); (case k_7 => k_is); (case a_8 => k_is); (case l_8 => k_is); (case c_8 => k_is); (case k_8 => k_is); (case a_9 => k_is); (case l_9 => k_is); (case c_9 => k_is); (case k_9 => k_is); (case a_10 => k_is); (case l_10 => k_is); (case c_10 => k_is); (case k_10 => k_is); (case a_11 => k_is); (case l_11 => k_is); (case c_11 => k_is); (case k_11 => k_is); (case a_12 => k_is); (case l_12 => k_is); (case c_12 => k_is); (case k_12 => k_is); (case a_13 => k_is); (case l_13 => k_is); (case c_13 => k_is); (case k_13 => k_is); (case a_14 => k_is); (case l_14 => k_is); (case c_14 => k_is); (case k_14 => k_is); (case a_15 => k_is); (case l_15 => k_is); (case c_15 => k_is); (case k_15 => k_is); (case a_16 => k_is); (case l_16 => k_is); (case c_16 => k_is); (case k_16 => k_is); (case a_17 => k_is); (case l_17 => k_is); (case c_17 => k_is); (case k_17 => k_is); (case a_18 => k_is); (case l_18 => k_is); (case c_18 => k_is); (case k_18 => k_is); (case a_19 => k_is); (case l_19 => k_is); (case c_19 => k_is); (case k_19 => k_is); (case a_20 => k_is); (case l_20 => k_is); (case c_20 => k_is); (case k_20 => k_is); (case a_21 => k_is); (case l_21 => k_is); (case c_21 => k_is); (case k_21 => k_is); (case a_22 => k_is); (case l_22 => k_is); (case c_22 => k_is); (case k_22 => k_is); (case a_23 => k_is); (case l_23 => k_is); (case c_23 => k_is); (case k_23 => k_is); (case a_24 => k_is); (case l_24 => k_is); (case c_24 => k_is); (case k_24 => k_is); (case a_25 => k_is); (case l_25 => k_is); (case c_25 => k_is); (case k_25 => k_is); (case a_26 => k_is); (case l_26 => k_is); (case c_26 => k_is); (case k_26 => k_is); (case a_27 => k_is); (case l_27 => k_is); (case c_27 => k_is); (case k_27 => k_is); (case a_28 => k_is); (case l_28 => k_is); (case c_28 => k_is); (case k_28 => k_is); (case z_abs => k_is); (case z_bool => k_is); (case z_enumerate => k_is); (case z_int => k_is); (case z_isinstance => k_is); (case z_len => k_is); (case z_range => k_is); (case z_str => k_is); (case z_sum => k_is); (case z_tuple => k_is); (case q_CUT => k_is); (case q_FACTOR => k_is); (case q_MORE => k_is); (case q_ROUND => k_is); (case q_gcd => k_is)
    (case o_2 => exact PySem.W.km_tabs_of Y _ (by simp))
