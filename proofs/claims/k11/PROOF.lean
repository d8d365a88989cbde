import PyProof.Rows.All
import Wide.All
import OpenK.AllK
import Wide.FinOn
import HandS.ForMost
import HandS.IsInst
import HandS.Wide
import HandS.Gcd
import HandS.TupAny
import HandS.TupMul
import HandS.Rev
import HandS.Zip
import PyProof.LongRange
import HandS.Style
import HandS.Conv
import PySem.Challenge.RW_lastfigure_k11_pages_and_prints_that_can
set_option Elab.async false
set_option linter.all false
set_option maxRecDepth 100000
set_option maxHeartbeats 4000000
set_option synthInstance.maxHeartbeats 2000000
set_option synthInstance.maxSize 100000
/-! P3: pure values over the hand layer: every def of the text is a predicate transformer over plain data. -/
namespace L2.P3
open PySem PySem.Spec PyProof.Rows

/-- plain values: numbers, texts, tuples by value; lst: a list of the store; rol: a list that is only read; bag: the law's source of draws -/
inductive PV where
  | non | bl (b : Bool) | int (i : Int) | str (x : Str) | tup (xs : List PV) | lst (n : Nat) | rol (xs : List PV) | bag

abbrev Store := List (List PV)
abbrev PEnv := List (Option PV)
structure PX where
  cls : String
  args : List PV
abbrev XW := PEnv → PX → Store → Prop
abbrev PQ := PV → Store → Prop
abbrev PTE := XW → PEnv → Store → PQ → Prop
abbrev PTA := XW → PEnv → Store → (List PV → Store → Prop) → Prop
abbrev PTT := XW → PEnv → Store → (Bool → Store → Prop) → Prop
abbrev PTO := XW → PEnv → Store → (Option Int → Store → Prop) → Prop
structure PEnds where
  nx : PEnv → Store → Prop
  rt : PQ
  bk : PEnv → Store → Prop := fun _ _ => False
  ct : PEnv → Store → Prop := fun _ _ => False
abbrev PTS := XW → PEnds → PEnv → Store → Prop
abbrev PTG := XW → PV → PEnv → Store → (PEnv → Store → Prop) → Prop

/-- two ways: no rewriting goes into them -/
def Br (b : Bool) (P Q : Prop) : Prop := match b with
  | true => P
  | false => Q
theorem Br_congr {b b' : Bool} {P Q : Prop} (h : b = b') : Br b P Q = Br b' P Q := by rw [h]
theorem br {b : Bool} {P Q : Prop} (h1 : b = true → P) (h2 : b = false → Q) : Br b P Q := by
  cases b
  · exact h2 rfl
  · exact h1 rfl
theorem brT {b : Bool} {P Q : Prop} (h : b = true) (p : P) : Br b P Q := by subst h; exact p
theorem brF {b : Bool} {P Q : Prop} (h : b = false) (p : Q) : Br b P Q := by subst h; exact p
/-- what is there, and so: no rewriting goes behind it -/
def onO {α : Type} (o : Option α) (k : α → Prop) : Prop := match o with
  | some x => k x
  | none => False
theorem onO_congr {α : Type} {o o' : Option α} {k : α → Prop} (h : o = o') : onO o k = onO o' k := by rw [h]
theorem onO_some {α : Type} (x : α) (k : α → Prop) : onO (some x) k = k x := rfl
theorem onO_ex {α : Type} {o : Option α} {k : α → Prop} (h : onO o k) : ∃ x, o = some x ∧ k x := by
  cases o with
  | none => exact False.elim h
  | some x => exact ⟨x, rfl, h⟩
theorem onO_of {α : Type} {o : Option α} {k : α → Prop} {x : α} (e : o = some x) (h : k x) : onO o k := by rw [e]; exact h
theorem onO_mo {α : Type} {o : Option α} {k k' : α → Prop} (h : ∀ x, k x → k' x) (q : onO o k) : onO o k' := by
  cases o with
  | none => exact False.elim q
  | some x => exact h x q
/-- where things stand: the store's lists, the bag's own lists -/
structure Am where
  m : List Addr
  bag : Option (List Addr)
/-- what a bag is: the place of its root among its lists, what holds of their contents -/
structure BagKind where
  root : Nat
  shape : List Addr → List (List V) → Prop
def noBag : BagKind := ⟨0, fun _ _ => False⟩

def FzL (K : PySem.W.Frag) (H : Hp) (a : Addr) (xs : List V) : Prop :=
  (∃ o, H a = some (.frz o (.lst xs))) ∨
    ∃ (o : Obj) (its : Array Value) (n : Nat), K.lookup a = some o ∧ o.cls = .type "list" ∧ o.dict = none ∧ o.data = .seq its n ∧ its.size ≤ sizeLine ∧ Vals xs its.toList
theorem FzL.sq {K : PySem.W.Frag} {H : Hp} {a : Addr} {xs : List V} (h : FzL K H a xs) : SqL K H a xs := by
  rcases h with ⟨o, h⟩ | h
  · exact .inl (.inr ⟨o, h⟩)
  · exact .inr h

mutual
def Rp (K : PySem.W.Frag) (r : Nat) (M : Am) (H : Hp) : PV → V → Prop
  | .non, v => v = .non
  | .bl b, v => v = .bl b
  | .int i, v => v = .int i
  | .str x, v => v = .str x
  | .tup xs, v => ∃ a vs, v = .ref a ∧ SqT K H a vs ∧ Rps K r M H xs vs
  | .lst n, v => ∃ a, M.m[n]? = some a ∧ v = .ref a
  | .rol xs, v => ∃ a vs, v = .ref a ∧ FzL K H a vs ∧ Rps K r M H xs vs
  | .bag, v => ∃ own a, M.bag = some own ∧ own[r]? = some a ∧ v = .ref a
def Rps (K : PySem.W.Frag) (r : Nat) (M : Am) (H : Hp) : List PV → List V → Prop
  | [], vs => vs = []
  | x :: xs, vs => ∃ v ws, vs = v :: ws ∧ Rp K r M H x v ∧ Rps K r M H xs ws
end

/-- lists at m with the contents S, related by the map M -/
structure StL (K : PySem.W.Frag) (r : Nat) (M : Am) (m : List Addr) (S : Store) (H : Hp) : Prop where
  len : m.length = S.length
  nd : m.Nodup
  at_ : ∀ (n : Nat) (xs : List PV), S[n]? = some xs → ∃ (a : Addr) (vs : List V), m[n]? = some a ∧ H a = some (.lst vs) ∧ Rps K r M H xs vs
/-- the bag: its own lists and their contents -/
def BagOk (bk : BagKind) (H : Hp) : Option (List Addr) → Prop
  | none => True
  | some own => own.Nodup ∧ bk.root < own.length ∧ ∃ cs : List (List V), bk.shape own cs ∧ cs.length = own.length ∧ ∀ (n : Nat) (a : Addr), own[n]? = some a → ∃ c, cs[n]? = some c ∧ H a = some (.lst c)
def own? : Option (List Addr) → List Addr
  | none => []
  | some l => l
structure Sto (K : PySem.W.Frag) (bk : BagKind) (M : Am) (S : Store) (H : Hp) : Prop where
  st : StL K bk.root M M.m S H
  bag : BagOk bk H M.bag
  apart : ∀ b ∈ M.m, b ∉ own? M.bag
structure Step (M : Am) (H : Hp) (M' : Am) (H' : Hp) : Prop where
  pre : ∃ l, M'.m = M.m ++ l
  bag : M'.bag = M.bag
  keep : ∀ b x, b ∉ M.m → b ∉ own? M.bag → H b = some x → H' b = some x
  live : ∀ b, H b ≠ none → H' b ≠ none
  new : ∀ b ∈ M'.m, b ∉ M.m → H b = none

theorem Step.refl (M : Am) (H : Hp) : Step M H M H := ⟨⟨[], by simp⟩, rfl, fun _ _ _ _ h => h, fun _ h => h, fun b h h' => absurd h h'⟩
theorem Step.trans {M1 M2 M3 : Am} {H1 H2 H3 : Hp} (a : Step M1 H1 M2 H2) (b : Step M2 H2 M3 H3) : Step M1 H1 M3 H3 := by
  obtain ⟨l1, e1⟩ := a.pre
  obtain ⟨l2, e2⟩ := b.pre
  refine ⟨⟨l1 ++ l2, by rw [e2, e1, List.append_assoc]⟩, b.bag.trans a.bag, fun c x h1 h2 h => ?_, fun c h => b.live c (a.live c h), fun c h1 h2 => ?_⟩
  · refine b.keep c x (fun hc => ?_) (by rw [a.bag]; exact h2) (a.keep c x h1 h2 h)
    rw [a.new c hc h1] at h; cases h
  · by_cases hc : c ∈ M2.m
    · exact a.new c hc h2
    · cases q : H1 c with
      | none => rfl
      | some x => exact absurd (b.new c h1 hc) (a.live c (by rw [q]; simp))

section
variable {K : PySem.W.Frag} {bk : BagKind} {r : Nat} {M M' : Am} {S S' : Store} {H H' : Hp}
theorem Rps.length : ∀ {xs : List PV} {vs : List V}, Rps K r M H xs vs → vs.length = xs.length
  | [], vs, h => by
    rw [Rps] at h; subst h; rfl
  | x :: xs, vs, h => by
    rw [Rps] at h
    obtain ⟨v, ws, rfl, _, h⟩ := h
    simp [Rps.length h]
theorem Rps.get : ∀ {xs : List PV} {vs : List V} {i : Nat} {x : PV}, Rps K r M H xs vs → xs[i]? = some x → ∃ v, vs[i]? = some v ∧ Rp K r M H x v
  | [], _, _, _, _, e => by simp at e
  | y :: xs, vs, 0, x, h, e => by
    rw [Rps] at h
    obtain ⟨v, ws, rfl, h1, _⟩ := h
    simp at e; subst e
    exact ⟨v, rfl, h1⟩
  | y :: xs, vs, i + 1, x, h, e => by
    rw [Rps] at h
    obtain ⟨v, ws, rfl, _, h⟩ := h
    obtain ⟨u, h1, h2⟩ := Rps.get (i := i) h (by simpa using e)
    exact ⟨u, by simpa using h1, h2⟩
theorem Rps.nil : Rps K r M H [] [] := by rw [Rps]
theorem Rps.cons {x : PV} {v : V} {xs : List PV} {vs : List V} (h : Rp K r M H x v) (h' : Rps K r M H xs vs) : Rps K r M H (x :: xs) (v :: vs) := by
  rw [Rps]; exact ⟨v, vs, rfl, h, h'⟩
theorem Rps.append : ∀ {xs ys : List PV} {vs ws : List V}, Rps K r M H xs vs → Rps K r M H ys ws → Rps K r M H (xs ++ ys) (vs ++ ws)
  | [], ys, vs, ws, h, h' => by
    rw [Rps] at h; subst h; exact h'
  | x :: xs, ys, vs, ws, h, h' => by
    rw [Rps] at h
    obtain ⟨v, us, rfl, h1, h⟩ := h
    exact Rps.cons h1 (Rps.append h h')
theorem Rps.set : ∀ {xs : List PV} {vs : List V} (i : Nat) {x : PV} {v : V}, Rps K r M H xs vs → Rp K r M H x v → Rps K r M H (xs.set i x) (vs.set i v)
  | [], vs, i, x, v, h, _ => by
    rw [Rps] at h; subst h; exact Rps.nil
  | y :: xs, vs, 0, x, v, h, h' => by
    rw [Rps] at h
    obtain ⟨u, us, rfl, h1, h⟩ := h
    exact Rps.cons h' h
  | y :: xs, vs, i + 1, x, v, h, h' => by
    rw [Rps] at h
    obtain ⟨u, us, rfl, h1, h⟩ := h
    exact Rps.cons h1 (Rps.set i h h')
/-- what a change must keep, for values -/
structure Kp (K : PySem.W.Frag) (M M' : Am) (H H' : Hp) : Prop where
  m : ∀ (n : Nat) (a : Addr), M.m[n]? = some a → M'.m[n]? = some a
  b : ∀ own, M.bag = some own → M'.bag = some own
  t : ∀ a vs, SqT K H a vs → SqT K H' a vs
  l : ∀ a vs, FzL K H a vs → FzL K H' a vs
mutual
theorem Rp.kp (k : Kp K M M' H H') : ∀ {x : PV} {v : V}, Rp K r M H x v → Rp K r M' H' x v
  | .non, v, h => by rw [Rp] at h ⊢; exact h
  | .bl b, v, h => by rw [Rp] at h ⊢; exact h
  | .int i, v, h => by rw [Rp] at h ⊢; exact h
  | .str x, v, h => by rw [Rp] at h ⊢; exact h
  | .tup xs, v, h => by
    rw [Rp] at h ⊢
    obtain ⟨a, vs, e, s, q⟩ := h
    exact ⟨a, vs, e, k.t a vs s, Rps.kp k q⟩
  | .lst n, v, h => by
    rw [Rp] at h ⊢
    obtain ⟨a, e, q⟩ := h
    exact ⟨a, k.m n a e, q⟩
  | .rol xs, v, h => by
    rw [Rp] at h ⊢
    obtain ⟨a, vs, e, s, q⟩ := h
    exact ⟨a, vs, e, k.l a vs s, Rps.kp k q⟩
  | .bag, v, h => by
    rw [Rp] at h ⊢
    obtain ⟨own, a, e, q⟩ := h
    exact ⟨own, a, k.b own e, q⟩
theorem Rps.kp (k : Kp K M M' H H') : ∀ {xs : List PV} {vs : List V}, Rps K r M H xs vs → Rps K r M' H' xs vs
  | [], vs, h => by rw [Rps] at h ⊢; exact h
  | x :: xs, vs, h => by
    rw [Rps] at h ⊢
    obtain ⟨v, ws, e, h1, h2⟩ := h
    exact ⟨v, ws, e, Rp.kp k h1, Rps.kp k h2⟩
end
theorem StL.mem {m : List Addr} (s : StL K r M m S H) {a : Addr} (h : a ∈ m) : ∃ vs, H a = some (.lst vs) := by
  obtain ⟨n, hn, e⟩ := List.getElem_of_mem h
  have hs : n < S.length := by rw [← s.len]; exact hn
  obtain ⟨b, vs, e1, e2, _⟩ := s.at_ n S[n] (by simp [hs])
  rw [List.getElem?_eq_getElem hn] at e1
  have : m[n] = b := Option.some.inj e1
  rw [← e, this]; exact ⟨vs, e2⟩
theorem Sto.memO (s : Sto K bk M S H) {a : Addr} (h : a ∈ own? M.bag) : ∃ vs, H a = some (.lst vs) := by
  have b := s.bag
  cases q : M.bag with
  | none => rw [q] at h; simp [own?] at h
  | some own =>
    rw [q] at b h
    obtain ⟨_, _, cs, _, _, t⟩ := b
    obtain ⟨n, hn, e⟩ := List.getElem_of_mem h
    obtain ⟨c, _, ec⟩ := t n own[n] (List.getElem?_eq_getElem hn)
    exact ⟨c, by rw [← e]; exact ec⟩
theorem Sto.keep (s : Sto K bk M S H) (t : Step M H M' H') {b : Addr} {x : HO} (h : H b = some x) (n : ∀ vs, x ≠ .lst vs) : H' b = some x := by
  refine t.keep b x (fun hm => ?_) (fun hm => ?_) h
  · obtain ⟨vs, e⟩ := s.st.mem hm
    rw [h] at e; exact n vs (Option.some.inj e)
  · obtain ⟨vs, e⟩ := s.memO hm
    rw [h] at e; exact n vs (Option.some.inj e)
theorem Sto.kp (s : Sto K bk M S H) (t : Step M H M' H') : Kp K M M' H H' := by
  refine ⟨fun n a e => ?_, fun own e => by rw [t.bag]; exact e, fun a vs h => ?_, fun a vs h => ?_⟩
  · obtain ⟨l, e'⟩ := t.pre
    rw [e', List.getElem?_append_left (List.getElem?_eq_some_iff.mp e).1]; exact e
  · rcases h with (h | ⟨o, h⟩) | h
    · exact .inl (.inl (s.keep t h fun _ z => by cases z))
    · exact .inl (.inr ⟨o, s.keep t h fun _ z => by cases z⟩)
    · exact .inr h
  · rcases h with ⟨o, h⟩ | h
    · exact .inl ⟨o, s.keep t h fun _ z => by cases z⟩
    · exact .inr h
theorem Rp.step {x : PV} {v : V} (h : Rp K bk.root M H x v) (s : Sto K bk M S H) (t : Step M H M' H') : Rp K bk.root M' H' x v := h.kp (s.kp t)
theorem Rps.step {x : List PV} {v : List V} (h : Rps K bk.root M H x v) (s : Sto K bk M S H) (t : Step M H M' H') : Rps K bk.root M' H' x v := h.kp (s.kp t)

/-- the frame's slots and the store -/
structure Rel (K : PySem.W.Frag) (bk : BagKind) (M : Am) (ρ : PEnv) (S : Store) (σ : St) (H : Hp) : Prop where
  len : ρ.length = σ.length
  slots : ∀ (i : Nat) (x : PV), ρ[i]? = some (some x) → ∃ v, σ[i]? = some (some v) ∧ Rp K bk.root M H x v
  sto : Sto K bk M S H
theorem Rel.step {ρ : PEnv} {σ : St} (R : Rel K bk M ρ S σ H) (t : Step M H M' H') (s : Sto K bk M' S' H') : Rel K bk M' ρ S' σ H' :=
  ⟨R.len, fun i x e => let ⟨v, e1, h⟩ := R.slots i x e; ⟨v, e1, h.step R.sto t⟩, s⟩
theorem Rel.set {ρ : PEnv} {σ : St} {x : PV} {v : V} (R : Rel K bk M ρ S σ H) (i : Nat) (h : Rp K bk.root M H x v) : Rel K bk M (ρ.set i (some x)) S (σ.set i (some v)) H := by
  refine ⟨by simp [R.len], fun j y e => ?_, R.sto⟩
  by_cases hj : i = j
  · subst hj
    have hl : i < ρ.length := by
      have := (List.getElem?_eq_some_iff.mp e).1
      simpa using this
    rw [List.getElem?_set_self hl] at e
    cases e
    exact ⟨v, List.getElem?_set_self (by rw [← R.len]; exact hl), h⟩
  · rw [List.getElem?_set_ne hj] at e
    obtain ⟨u, e1, q⟩ := R.slots j y e
    exact ⟨u, by rw [List.getElem?_set_ne hj]; exact e1, q⟩
end
end L2.P3
namespace L2.P3
open PySem PySem.Spec PyProof.Rows

/-! ### judgements -/
section
variable (bk : BagKind)
/-- from a state, what is wanted of a value, in both worlds -/
def Post (K : PySem.W.Frag) (M : Am) (H : Hp) (Q : PQ) (Q' : VK) : Prop :=
  ∀ M' S' H' x v, Step M H M' H' → Sto K bk M' S' H' → Rp K bk.root M' H' x v → Q x S' → Q' v H'
def PostA (K : PySem.W.Frag) (M : Am) (H : Hp) (Q : List PV → Store → Prop) (Q' : List V → Hp → Prop) : Prop :=
  ∀ M' S' H' x v, Step M H M' H' → Sto K bk M' S' H' → Rps K bk.root M' H' x v → Q x S' → Q' v H'
def PostT {α : Type} (K : PySem.W.Frag) (M : Am) (H : Hp) (Q : α → Store → Prop) (Q' : α → Hp → Prop) : Prop :=
  ∀ M' S' H' b, Step M H M' H' → Sto K bk M' S' H' → Q b S' → Q' b H'
def PostS (K : PySem.W.Frag) (M : Am) (H : Hp) (Q : PEnv → Store → Prop) (Q' : St → Hp → Prop) : Prop :=
  ∀ M' ρ' S' σ' H', Step M H M' H' → Rel K bk M' ρ' S' σ' H' → Q ρ' S' → Q' σ' H'
structure PostD (K : PySem.W.Frag) (M : Am) (H : Hp) (D : PEnds) (D' : Ends) : Prop where
  nx : PostS bk K M H D.nx D'.nx
  rt : Post bk K M H D.rt D'.rt
  br : PostS bk K M H D.bk D'.bk
  ct : PostS bk K M H D.ct D'.ct

structure QE (X : Cx) (e : Expr) (f : PTE) : Prop where
  ex : ∃ t, PE X e t ∧ ∀ (E : XW) M ρ S σ H Q Q', Rel X.K bk M ρ S σ H → f E ρ S Q → Post bk X.K M H Q Q' → t σ H Q'
structure QA (X : Cx) (es : List Expr) (f : PTA) : Prop where
  ex : ∃ t, PA X es t ∧ ∀ (E : XW) M ρ S σ H Q Q', Rel X.K bk M ρ S σ H → f E ρ S Q → PostA bk X.K M H Q Q' → t σ H Q'
structure QT (X : Cx) (e : Expr) (f : PTT) : Prop where
  ex : ∃ t, PT X e t ∧ ∀ (E : XW) M ρ S σ H Q Q', Rel X.K bk M ρ S σ H → f E ρ S Q → PostT bk X.K M H Q Q' → t σ H Q'
structure QW (X : Cx) (e : Expr) (f : PTT) : Prop where
  ex : ∃ t, PW X e t ∧ ∀ (E : XW) M ρ S σ H Q Q', Rel X.K bk M ρ S σ H → f E ρ S Q → PostT bk X.K M H Q Q' → t σ H Q'
structure QO (X : Cx) (e : Option Expr) (f : PTO) : Prop where
  ex : ∃ t, PO X e t ∧ ∀ (E : XW) M ρ S σ H Q Q', Rel X.K bk M ρ S σ H → f E ρ S Q → PostT bk X.K M H Q Q' → t σ H Q'
structure QS (X : Cx) (s : Stmt) (f : PTS) : Prop where
  ex : ∃ t, PS X s t ∧ ∀ (E : XW) M ρ S σ H D D', Rel X.K bk M ρ S σ H → f E D ρ S → PostD bk X.K M H D D' → t D' σ H
structure QSs (X : Cx) (s : List Stmt) (f : PTS) : Prop where
  ex : ∃ t, PSs X s t ∧ ∀ (E : XW) M ρ S σ H D D', Rel X.K bk M ρ S σ H → f E D ρ S → PostD bk X.K M H D D' → t D' σ H
structure QG (X : Cx) (e : Expr) (g : PTG) : Prop where
  ex : ∃ t, PG X e t ∧ ∀ (E : XW) M ρ S σ H x v Q Q', Rel X.K bk M ρ S σ H → Rp X.K bk.root M H x v → g E x ρ S Q → PostS bk X.K M H Q Q' → t v σ H Q'
structure QGs (X : Cx) (es : List Expr) (g : XW → List PV → PEnv → Store → (PEnv → Store → Prop) → Prop) : Prop where
  ex : ∃ t, PGs X es t ∧ ∀ (E : XW) M ρ S σ H x v Q Q', Rel X.K bk M ρ S σ H → Rps X.K bk.root M H x v → g E x ρ S Q → PostS bk X.K M H Q Q' → t v σ H Q'
end
section
variable {bk : BagKind} {K : PySem.W.Frag} {M M1 : Am} {H H1 : Hp}
theorem Post.after {Q Q'} (p : Post bk K M H Q Q') (t : Step M H M1 H1) : Post bk K M1 H1 Q Q' := fun M' S' H' x v t' => p M' S' H' x v (t.trans t')
theorem PostA.after {Q Q'} (p : PostA bk K M H Q Q') (t : Step M H M1 H1) : PostA bk K M1 H1 Q Q' := fun M' S' H' x v t' => p M' S' H' x v (t.trans t')
theorem PostT.after {α} {Q : α → Store → Prop} {Q'} (p : PostT bk K M H Q Q') (t : Step M H M1 H1) : PostT bk K M1 H1 Q Q' := fun M' S' H' x t' => p M' S' H' x (t.trans t')
theorem PostS.after {Q Q'} (p : PostS bk K M H Q Q') (t : Step M H M1 H1) : PostS bk K M1 H1 Q Q' := fun M' ρ' S' σ' H' t' => p M' ρ' S' σ' H' (t.trans t')
theorem PostD.after {D D'} (p : PostD bk K M H D D') (t : Step M H M1 H1) : PostD bk K M1 H1 D D' := ⟨p.nx.after t, p.rt.after t, p.br.after t, p.ct.after t⟩
end

/-! ### values by value: two-place, one-place, calls -/
abbrev PO2 := PV → PV → Store → PQ → Prop
abbrev PO1 := PV → Store → PQ → Prop
abbrev PCl := List PV → Store → PQ → Prop
section
variable (bk : BagKind) (K : PySem.W.Frag)
def OpP (r : R2) (o : PO2) : Prop := ∀ M S H x y v w Q Q', Sto K bk M S H → Rp K bk.root M H x v → Rp K bk.root M H y w → o x y S Q → Post bk K M H Q Q' → r v w H Q'
def UnP (r : V → Hp → VK → Prop) (o : PO1) : Prop := ∀ M S H x v Q Q', Sto K bk M S H → Rp K bk.root M H x v → o x S Q → Post bk K M H Q Q' → r v H Q'
def ClP (r : List V → Hp → VK → Prop) (o : PCl) : Prop := ∀ M S H x v Q Q', Sto K bk M S H → Rps K bk.root M H x v → o x S Q → Post bk K M H Q Q' → r v H Q'
end

def pVar (i : Nat) : PTE := fun _ ρ S Q => match ρ[i]? with | some (some x) => Q x S | _ => False
def pC (x : PV) : PTE := fun _ _ S Q => Q x S
def pOp (o : PO2) (f g : PTE) : PTE := fun E ρ S Q => f E ρ S fun x S1 => g E ρ S1 fun y S2 => o x y S2 Q
def pUn (o : PO1) (f : PTE) : PTE := fun E ρ S Q => f E ρ S fun x S1 => o x S1 Q
def pCl (o : PCl) (f : PTA) : PTE := fun E ρ S Q => f E ρ S fun xs S1 => o xs S1 Q
def pANil : PTA := fun _ _ S Q => Q [] S
def pACons (f : PTE) (g : PTA) : PTA := fun E ρ S Q => f E ρ S fun x S1 => g E ρ S1 fun xs S2 => Q (x :: xs) S2
def pIf (c : PTT) (f g : PTE) : PTE := fun E ρ S Q => c E ρ S fun b S1 => Br b (f E ρ S1 Q) (g E ρ S1 Q)
/-- a value that is True or False, as a test -/
def pTB (f : PTE) : PTT := fun E ρ S Q => f E ρ S fun x S1 => match x with | .bl b => Q b S1 | _ => False
def pAnd (f g : PTT) : PTT := fun E ρ S Q => f E ρ S fun b S1 => Br b (g E ρ S1 Q) (Q false S1)
def pOr (f g : PTT) : PTT := fun E ρ S Q => f E ρ S fun b S1 => Br b (Q true S1) (g E ρ S1 Q)
def pNot (f : PTT) : PTT := fun E ρ S Q => f E ρ S fun b S1 => Q (!b) S1
def pAndV (f g : PTE) : PTE := fun E ρ S Q => f E ρ S fun x S1 => match x with | .bl b => Br b (g E ρ S1 Q) (Q (.bl false) S1) | _ => False
def pOrV (f g : PTE) : PTE := fun E ρ S Q => f E ρ S fun x S1 => match x with | .bl b => Br b (Q (.bl true) S1) (g E ρ S1 Q) | _ => False
def pNotV (f : PTE) : PTE := fun E ρ S Q => f E ρ S fun x S1 => match x with | .bl b => Q (.bl (!b)) S1 | _ => False

section
variable {bk : BagKind} {X : Cx} {a b c : Expr} {f g h : PTE} {pos : Pos}
theorem q_var (i : Nat) {x : Str} (hN : X.N[i]? = some x := by rfl) (hv : Vis X.env.scope x := by first | exact Or.inl rfl | exact Or.inr (Or.inl rfl) | exact Or.inr (Or.inr rfl)) (hd : (x == ("__debug__" : Str)) = false := by decide)
    (hcd : (x == ("__classdict__" : Str)) = false := by decide) : QE bk X (.Name x pos) (pVar i) := by
  refine ⟨_, pe_var hN hv hd hcd, fun E M ρ S σ H Q Q' R q p => ?_⟩
  unfold pVar at q
  split at q
  · rename_i y e
    obtain ⟨v, e1, h⟩ := R.slots i y e
    exact ⟨v, e1, p M S H y v (.refl M H) R.sto h q⟩
  · exact q.elim
theorem q_op {op : Operator} {r : R2} {o : PO2} (ho : OpR X (binaryOp op) r) (hp : OpP bk X.K r o) (ha : QE bk X a f) (hb : QE bk X b g) : QE bk X (.BinOp a op b pos) (pOp o f g) := by
  obtain ⟨ta, pa, wa⟩ := ha.ex
  obtain ⟨tb, pb, wb⟩ := hb.ex
  refine ⟨_, pe_op ho pa pb, fun E M ρ S σ H Q Q' R q p => ?_⟩
  refine wa E M ρ S σ H _ _ R q fun M1 S1 H1 x v t1 s1 r1 q1 => ?_
  refine wb E M1 ρ S1 σ H1 _ _ (R.step t1 s1) q1 fun M2 S2 H2 y w t2 s2 r2 q2 => ?_
  exact hp M2 S2 H2 x y v w Q Q' s2 (r1.step s1 t2) r2 q2 (p.after (t1.trans t2))
theorem q_cmp {op : CmpOp} {r : R2} {o : PO2} (ho : OpR X (compareOp op) r) (hp : OpP bk X.K r o) (ha : QE bk X a f) (hb : QE bk X b g) (hm : behindInMarks op b = false) : QE bk X (.Compare a [op] [b] pos) (pOp o f g) := by
  obtain ⟨ta, pa, wa⟩ := ha.ex
  obtain ⟨tb, pb, wb⟩ := hb.ex
  refine ⟨_, pe_cmpR ho pa pb hm, fun E M ρ S σ H Q Q' R q p => ?_⟩
  refine wa E M ρ S σ H _ _ R q fun M1 S1 H1 x v t1 s1 r1 q1 => ?_
  refine wb E M1 ρ S1 σ H1 _ _ (R.step t1 s1) q1 fun M2 S2 H2 y w t2 s2 r2 q2 => ?_
  exact hp M2 S2 H2 x y v w Q Q' s2 (r1.step s1 t2) r2 q2 (p.after (t1.trans t2))
theorem q_un {op : UnaryOp} {r : V → Hp → VK → Prop} {o : PO1} (ho : UnR X (unaryOp op) r) (hp : UnP bk X.K r o) (ha : QE bk X a f) : QE bk X (.UnaryOp op a pos) (pUn o f) := by
  obtain ⟨ta, pa, wa⟩ := ha.ex
  refine ⟨_, pe_un ho pa, fun E M ρ S σ H Q Q' R q p => ?_⟩
  refine wa E M ρ S σ H _ _ R q fun M1 S1 H1 x v t1 s1 r1 q1 => ?_
  exact hp M1 S1 H1 x v Q Q' s1 r1 q1 (p.after t1)
theorem q_anil : QA bk X [] pANil := ⟨_, pa_nil, fun E M ρ S σ H Q Q' R q p => p M S H [] [] (.refl M H) R.sto .nil q⟩
theorem q_acons {e : Expr} {es : List Expr} {fs : PTA} (ha : QE bk X e f) (hs : QA bk X es fs) (he : starEach (e :: es) X.env = (false, eval e X.env) :: starEach es X.env := by rfl) : QA bk X (e :: es) (pACons f fs) := by
  obtain ⟨ta, pa, wa⟩ := ha.ex
  obtain ⟨tb, pb, wb⟩ := hs.ex
  refine ⟨_, pa_cons pa pb he, fun E M ρ S σ H Q Q' R q p => ?_⟩
  refine wa E M ρ S σ H _ _ R q fun M1 S1 H1 x v t1 s1 r1 q1 => ?_
  refine wb E M1 ρ S1 σ H1 _ _ (R.step t1 s1) q1 fun M2 S2 H2 y w t2 s2 r2 q2 => ?_
  exact p M2 S2 H2 _ _ (t1.trans t2) s2 (.cons (r1.step s1 t2) r2) q2
theorem q_callB {id : String} {x : Str} {p' : Pos} {e : Expr} {es : List Expr} {r : List V → Hp → VK → Prop} {o : PCl} {fs : PTA} (hc : CallR X (.builtin id) r) (hp : ClP bk X.K r o) (hg : Gl X x) (hm : X.mg x = none) (hv : bootBuiltins x = some (.builtin id)) (ha : QA bk X (e :: es) fs)
    (hn : x ≠ "__name__" := by decide) (hdb : (x == ("__debug__" : Str)) = false := by decide)
    (he : starEach (e :: es) X.env = (false, eval e X.env) :: starEach es X.env := by rfl) (hpl : (backTo pos (starEach es X.env)).any (·.1) = false := by rfl) : QE bk X (.Call (.Name x p') (e :: es) [] pos) (pCl o fs) := by
  obtain ⟨ta, pa, wa⟩ := ha.ex
  refine ⟨_, pe_callB hc hg hm hv pa hn hdb he hpl, fun E M ρ S σ H Q Q' R q p => ?_⟩
  exact wa E M ρ S σ H _ _ R q fun M1 S1 H1 x v t1 s1 r1 q1 => hp M1 S1 H1 x v Q Q' s1 r1 q1 (p.after t1)
theorem q_callTy {T : String} {x : Str} {p' : Pos} {e : Expr} {es : List Expr} {r : List V → Hp → VK → Prop} {o : PCl} {fs : PTA} (hc : CallR X (.type T) r) (hp : ClP bk X.K r o) (hg : Gl X x) (hm : X.mg x = none) (hv : bootBuiltins x = some (.type T)) (ha : QA bk X (e :: es) fs)
    (hn : x ≠ "__name__" := by decide) (hdb : (x == ("__debug__" : Str)) = false := by decide)
    (he : starEach (e :: es) X.env = (false, eval e X.env) :: starEach es X.env := by rfl) (hpl : (backTo pos (starEach es X.env)).any (·.1) = false := by rfl) : QE bk X (.Call (.Name x p') (e :: es) [] pos) (pCl o fs) := by
  obtain ⟨ta, pa, wa⟩ := ha.ex
  refine ⟨_, pe_callTy hc hg hm hv pa hn hdb he hpl, fun E M ρ S σ H Q Q' R q p => ?_⟩
  exact wa E M ρ S σ H _ _ R q fun M1 S1 H1 x v t1 s1 r1 q1 => hp M1 S1 H1 x v Q Q' s1 r1 q1 (p.after t1)
theorem q_callBfun {id : String} {x : Str} {p' : Pos} {e : Expr} {es : List Expr} {r : List V → Hp → VK → Prop} {o : PCl} {fs : PTA} (hc : CallR X (.builtin id) r) (hp : ClP bk X.K r o) (hg : Gl X x) (hm : X.mg x = some (.builtin id)) (ha : QA bk X (e :: es) fs)
    (hdb : (x == ("__debug__" : Str)) = false := by decide)
    (he : starEach (e :: es) X.env = (false, eval e X.env) :: starEach es X.env := by rfl) (hpl : (backTo pos (starEach es X.env)).any (·.1) = false := by rfl) : QE bk X (.Call (.Name x p') (e :: es) [] pos) (pCl o fs) := by
  obtain ⟨ta, pa, wa⟩ := ha.ex
  refine ⟨_, pe_callBfun hc hg hm pa hdb he hpl, fun E M ρ S σ H Q Q' R q p => ?_⟩
  exact wa E M ρ S σ H _ _ R q fun M1 S1 H1 x v t1 s1 r1 q1 => hp M1 S1 H1 x v Q Q' s1 r1 q1 (p.after t1)
theorem q_if {f1 : PTT} (hc : QT bk X c f1) (ha : QE bk X a f) (hb : QE bk X b g) : QE bk X (.IfExp c a b pos) (pIf f1 f g) := by
  obtain ⟨tc, pc, wc⟩ := hc.ex
  obtain ⟨ta, pa, wa⟩ := ha.ex
  obtain ⟨tb, pb, wb⟩ := hb.ex
  refine ⟨_, pe_ifExp pc pa pb, fun E M ρ S σ H Q Q' R q p => ?_⟩
  refine wc E M ρ S σ H _ _ R q fun M1 S1 H1 d t1 s1 q1 => ?_
  cases d with
  | true => exact wa E M1 ρ S1 σ H1 _ _ (R.step t1 s1) q1 (p.after t1)
  | false => exact wb E M1 ρ S1 σ H1 _ _ (R.step t1 s1) q1 (p.after t1)
theorem rp_bl {K : PySem.W.Frag} {r : Nat} {M : Am} {H : Hp} {d : Bool} {v : V} (h : Rp K r M H (.bl d) v) : v = .bl d := by rw [Rp] at h; exact h
theorem rp_int {K : PySem.W.Frag} {r : Nat} {M : Am} {H : Hp} {d : Int} {v : V} (h : Rp K r M H (.int d) v) : v = .int d := by rw [Rp] at h; exact h
theorem rp_str {K : PySem.W.Frag} {r : Nat} {M : Am} {H : Hp} {d : Str} {v : V} (h : Rp K r M H (.str d) v) : v = .str d := by rw [Rp] at h; exact h
theorem rp_non {K : PySem.W.Frag} {r : Nat} {M : Am} {H : Hp} {v : V} (h : Rp K r M H .non v) : v = .non := by rw [Rp] at h; exact h
theorem rp_tup {K : PySem.W.Frag} {r : Nat} {M : Am} {H : Hp} {xs : List PV} {v : V} (h : Rp K r M H (.tup xs) v) : ∃ a vs, v = .ref a ∧ SqT K H a vs ∧ Rps K r M H xs vs := by rw [Rp] at h; exact h
theorem rp_lst {K : PySem.W.Frag} {r : Nat} {M : Am} {H : Hp} {n : Nat} {v : V} (h : Rp K r M H (.lst n) v) : ∃ a, M.m[n]? = some a ∧ v = .ref a := by rw [Rp] at h; exact h
theorem rp_rol {K : PySem.W.Frag} {r : Nat} {M : Am} {H : Hp} {xs : List PV} {v : V} (h : Rp K r M H (.rol xs) v) : ∃ a vs, v = .ref a ∧ FzL K H a vs ∧ Rps K r M H xs vs := by rw [Rp] at h; exact h
theorem to_bl {K : PySem.W.Frag} {r : Nat} {M : Am} {H : Hp} {d : Bool} : Rp K r M H (.bl d) (.bl d) := by rw [Rp]
theorem to_int {K : PySem.W.Frag} {r : Nat} {M : Am} {H : Hp} {d : Int} : Rp K r M H (.int d) (.int d) := by rw [Rp]
theorem to_str {K : PySem.W.Frag} {r : Nat} {M : Am} {H : Hp} {d : Str} : Rp K r M H (.str d) (.str d) := by rw [Rp]
theorem to_non {K : PySem.W.Frag} {r : Nat} {M : Am} {H : Hp} : Rp K r M H .non .non := by rw [Rp]
/-- tests -/
theorem qt_cmp {op : CmpOp} {r : R2} {o : PO2} (ho : OpR X (compareOp op) r) (hp : OpP bk X.K r o) (ha : QE bk X a f) (hb : QE bk X b g) (hm : behindInMarks op b = false) : QT bk X (.Compare a [op] [b] pos) (pTB (pOp o f g)) := by
  obtain ⟨ta, pa, wa⟩ := ha.ex
  obtain ⟨tb, pb, wb⟩ := hb.ex
  refine ⟨_, pt_cmpR ho pa pb hm, fun E M ρ S σ H Q Q' R q p => ?_⟩
  refine wa E M ρ S σ H _ _ R q fun M1 S1 H1 x v t1 s1 r1 q1 => ?_
  refine wb E M1 ρ S1 σ H1 _ _ (R.step t1 s1) q1 fun M2 S2 H2 y w t2 s2 r2 q2 => ?_
  refine hp M2 S2 H2 x y v w _ _ s2 (r1.step s1 t2) r2 q2 fun M3 S3 H3 z u t3 s3 r3 q3 => ?_
  cases z <;> first | exact q3.elim | exact ⟨_, rp_bl r3, p M3 S3 H3 _ ((t1.trans t2).trans t3) s3 q3⟩
theorem qt_val (ha : QE bk X a f) (he : ∀ whole, isTrue a X.env whole = (do let v ← whole; standAt a.pos; holding [v] (truthy v)) := by intro _; rfl) : QT bk X a (pTB f) := by
  obtain ⟨ta, pa, wa⟩ := ha.ex
  refine ⟨_, pt_val pa he, fun E M ρ S σ H Q Q' R q p => ?_⟩
  refine wa E M ρ S σ H _ _ R q fun M1 S1 H1 x v t1 s1 r1 q1 => ?_
  cases x <;> first | exact q1.elim | exact ⟨_, rp_bl r1, p M1 S1 H1 _ t1 s1 q1⟩
theorem QW.qt {e : Expr} {f : PTT} (h : QW bk X e f) : QT bk X e f := by
  obtain ⟨t, p, w⟩ := h.ex
  exact ⟨t, p.pt, w⟩
variable {rest : List Expr} {f1 f2 : PTT}
theorem qw_and1 (ha : QT bk X a f1) : QW bk X (.BoolOp .And [a] pos) f1 := by
  obtain ⟨t, p, w⟩ := ha.ex
  exact ⟨t, pw_and1 p, w⟩
theorem qw_or1 (ha : QT bk X a f1) : QW bk X (.BoolOp .Or [a] pos) f1 := by
  obtain ⟨t, p, w⟩ := ha.ex
  exact ⟨t, pw_or1 p, w⟩
theorem qw_and (ha : QT bk X a f1) (hb : QW bk X (.BoolOp .And (b :: rest) pos) f2) : QW bk X (.BoolOp .And (a :: b :: rest) pos) (pAnd f1 f2) := by
  obtain ⟨ta, pa, wa⟩ := ha.ex
  obtain ⟨tb, pb, wb⟩ := hb.ex
  refine ⟨_, pw_and pa pb, fun E M ρ S σ H Q Q' R q p => ?_⟩
  refine wa E M ρ S σ H _ _ R q fun M1 S1 H1 d t1 s1 q1 => ?_
  cases d with
  | true => exact wb E M1 ρ S1 σ H1 _ _ (R.step t1 s1) q1 (p.after t1)
  | false => exact p M1 S1 H1 _ t1 s1 q1
theorem qw_or (ha : QT bk X a f1) (hb : QW bk X (.BoolOp .Or (b :: rest) pos) f2) : QW bk X (.BoolOp .Or (a :: b :: rest) pos) (pOr f1 f2) := by
  obtain ⟨ta, pa, wa⟩ := ha.ex
  obtain ⟨tb, pb, wb⟩ := hb.ex
  refine ⟨_, pw_or pa pb, fun E M ρ S σ H Q Q' R q p => ?_⟩
  refine wa E M ρ S σ H _ _ R q fun M1 S1 H1 d t1 s1 q1 => ?_
  cases d with
  | true => exact p M1 S1 H1 _ t1 s1 q1
  | false => exact wb E M1 ρ S1 σ H1 _ _ (R.step t1 s1) q1 (p.after t1)
theorem qt_not (ha : QT bk X a f1) : QT bk X (.UnaryOp .Not a pos) (pNot f1) := by
  obtain ⟨ta, pa, wa⟩ := ha.ex
  refine ⟨_, pt_not pa, fun E M ρ S σ H Q Q' R q p => ?_⟩
  exact wa E M ρ S σ H _ _ R q fun M1 S1 H1 d t1 s1 q1 => p M1 S1 H1 _ t1 s1 q1
theorem q_one {op} (h : QE bk X a f) : QE bk X (.BoolOp op [a] pos) f := by
  obtain ⟨t, p, w⟩ := h.ex
  exact ⟨t, pe_one p, w⟩
theorem q_and (ha : QE bk X a f) (hb : QE bk X (.BoolOp .And (b :: rest) pos) g) : QE bk X (.BoolOp .And (a :: b :: rest) pos) (pAndV f g) := by
  obtain ⟨ta, pa, wa⟩ := ha.ex
  obtain ⟨tb, pb, wb⟩ := hb.ex
  refine ⟨_, pe_and pa pb, fun E M ρ S σ H Q Q' R q p => ?_⟩
  refine wa E M ρ S σ H _ _ R q fun M1 S1 H1 x v t1 s1 r1 q1 => ?_
  cases x <;> first | exact q1.elim | skip
  rename_i d
  refine ⟨d, rp_bl r1, ?_⟩
  cases d with
  | true => exact wb E M1 ρ S1 σ H1 _ _ (R.step t1 s1) q1 (p.after t1)
  | false => exact p M1 S1 H1 _ _ t1 s1 to_bl q1
theorem q_or (ha : QE bk X a f) (hb : QE bk X (.BoolOp .Or (b :: rest) pos) g) : QE bk X (.BoolOp .Or (a :: b :: rest) pos) (pOrV f g) := by
  obtain ⟨ta, pa, wa⟩ := ha.ex
  obtain ⟨tb, pb, wb⟩ := hb.ex
  refine ⟨_, pe_or pa pb, fun E M ρ S σ H Q Q' R q p => ?_⟩
  refine wa E M ρ S σ H _ _ R q fun M1 S1 H1 x v t1 s1 r1 q1 => ?_
  cases x <;> first | exact q1.elim | skip
  rename_i d
  refine ⟨d, rp_bl r1, ?_⟩
  cases d with
  | true => exact p M1 S1 H1 _ _ t1 s1 to_bl q1
  | false => exact wb E M1 ρ S1 σ H1 _ _ (R.step t1 s1) q1 (p.after t1)
theorem q_not (ha : QE bk X a f) : QE bk X (.UnaryOp .Not a pos) (pNotV f) := by
  obtain ⟨ta, pa, wa⟩ := ha.ex
  refine ⟨_, pe_not pa, fun E M ρ S σ H Q Q' R q p => ?_⟩
  refine wa E M ρ S σ H _ _ R q fun M1 S1 H1 x v t1 s1 r1 q1 => ?_
  cases x <;> first | exact q1.elim | exact ⟨_, rp_bl r1, p M1 S1 H1 _ _ t1 s1 to_bl q1⟩
end
end L2.P3
namespace L2.P3
open PySem PySem.Spec PyProof.Rows

/-! ### constants, displays -/
section
variable {bk : BagKind} {X : Cx} {pos : Pos}
theorem q_c {x : PV} {v : V} {e : Expr} (h : PE X e (tC v)) (hr : ∀ M H, Rp X.K bk.root M H x v) : QE bk X e (pC x) :=
  ⟨_, h, fun E M ρ S σ H Q Q' R q p => p M S H x v (.refl M H) R.sto (hr M H) q⟩
theorem q_int {i j} : QE bk X (.Constant (.int i) j pos) (pC (.int i)) := q_c pe_int fun _ _ => to_int
theorem q_bl {b j} : QE bk X (.Constant (.bool b) j pos) (pC (.bl b)) := q_c pe_bl fun _ _ => to_bl
theorem q_non {j} : QE bk X (.Constant .none j pos) (pC .non) := q_c pe_non fun _ _ => to_non
theorem q_str {x j} : QE bk X (.Constant (.str x) j pos) (pC (.str x)) := q_c pe_str fun _ _ => to_str
theorem q_gint {x : Str} {i : Int} {t : Tok} (hg : Gl X x) (hm : X.mg x = some (.int i t)) (hd : (x == ("__debug__" : Str)) = false := by decide) : QE bk X (.Name x pos) (pC (.int i)) := q_c (v := .int i) (pe_glob hg hm ⟨t, rfl⟩ hd) fun _ _ => to_int
theorem q_gstr {x y : Str} {t : Tok} (hg : Gl X x) (hm : X.mg x = some (.str y t)) (hd : (x == ("__debug__" : Str)) = false := by decide) : QE bk X (.Name x pos) (pC (.str y)) := q_c (v := .str y) (pe_glob hg hm ⟨t, rfl⟩ hd) fun _ _ => to_str

def pTup (f : PTA) : PTE := fun E ρ S Q => f E ρ S fun xs S1 => xs.length ≤ 16777216 ∧ Q (.tup xs) S1
def pLst (f : PTA) : PTE := fun E ρ S Q => f E ρ S fun xs S1 => xs.length ≤ 16777216 ∧ Q (.lst S1.length) (S1 ++ [xs])
end
section
variable {K : PySem.W.Frag} {bk : BagKind} {M : Am} {S : Store} {H : Hp}
theorem Sto.fresh {p : Addr} (s : Sto K bk M S H) (hp : H p = none) : p ∉ M.m ∧ p ∉ own? M.bag := by
  constructor
  · intro h; obtain ⟨vs, e⟩ := s.st.mem h; rw [hp] at e; cases e
  · intro h; obtain ⟨vs, e⟩ := s.memO h; rw [hp] at e; cases e
/-- the bag stands while nothing of its own is changed -/
theorem BagOk.keep {r0 : BagKind} {H' : Hp} {o : Option (List Addr)} (b : BagOk r0 H o) (h : ∀ a ∈ own? o, ∀ x, H a = some x → H' a = some x) : BagOk r0 H' o := by
  cases o with
  | none => trivial
  | some own =>
    obtain ⟨nd, lt, cs, sh, hl, t⟩ := b
    refine ⟨nd, lt, cs, sh, hl, fun n a e => ?_⟩
    obtain ⟨c, e1, e2⟩ := t n a e
    exact ⟨c, e1, h a (List.mem_of_getElem? e) _ e2⟩
theorem Sto.bagS {M' : Am} {H' : Hp} (s : Sto K bk M S H) (t : Step M H M' H') (h : ∀ a ∈ own? M.bag, ∀ x, H a = some x → H' a = some x) : BagOk bk H' M'.bag := by
  rw [t.bag]
  exact s.bag.keep h
/-- a new object that is no list of the store -/
theorem Step.laid {p : Addr} {o : HO} (hp : H p = none) : Step M H M (upd H p o) :=
  ⟨⟨[], by simp⟩, rfl, fun b x _ _ h => by rw [upd_ne (ne_of_none h hp)]; exact h, fun b h => by
    by_cases e : b = p
    · rw [e, upd_same]; exact fun z => by cases z
    · rw [upd_ne e]; exact h, fun b h h' => absurd h h'⟩
theorem Sto.laid {p : Addr} {o : HO} (s : Sto K bk M S H) (hp : H p = none) : Sto K bk M S (upd H p o) := by
  have t : Step M H M (upd H p o) := Step.laid hp
  refine ⟨⟨s.st.len, s.st.nd, fun n xs e => ?_⟩, s.bagS t fun a _ x e => by rw [upd_ne (ne_of_none e hp)]; exact e, s.apart⟩
  obtain ⟨a, vs, e1, e2, e3⟩ := s.st.at_ n xs e
  exact ⟨a, vs, e1, by rw [upd_ne (ne_of_none e2 hp)]; exact e2, e3.step s t⟩
/-- a new list of the store -/
theorem Step.push {p : Addr} {o : HO} (hp : H p = none) : Step M H ⟨M.m ++ [p], M.bag⟩ (upd H p o) :=
  ⟨⟨[p], rfl⟩, rfl, fun b x _ _ h => by rw [upd_ne (ne_of_none h hp)]; exact h, fun b h => by
    by_cases e : b = p
    · rw [e, upd_same]; exact fun z => by cases z
    · rw [upd_ne e]; exact h, fun b h h' => by
    rcases List.mem_append.mp h with h | h
    · exact absurd h h'
    · simp at h; rw [h]; exact hp⟩
theorem Sto.push {p : Addr} {xs : List PV} {vs : List V} (s : Sto K bk M S H) (hp : H p = none) (r : Rps K bk.root M H xs vs) : Sto K bk ⟨M.m ++ [p], M.bag⟩ (S ++ [xs]) (upd H p (.lst vs)) := by
  have t : Step M H ⟨M.m ++ [p], M.bag⟩ (upd H p (.lst vs)) := Step.push hp
  obtain ⟨f1, f2⟩ := s.fresh hp
  refine ⟨⟨by simp [s.st.len], ?_, fun n ys e => ?_⟩, s.bagS t fun a _ x e => by rw [upd_ne (ne_of_none e hp)]; exact e, fun b hb => ?_⟩
  · show (M.m ++ [p]).Nodup
    rw [List.nodup_append]
    exact ⟨s.st.nd, by simp, fun a ha b hb => by simp at hb; rw [hb]; intro z; rw [z] at ha; exact f1 ha⟩
  · by_cases hn : n < S.length
    · rw [List.getElem?_append_left hn] at e
      obtain ⟨a, ws, e1, e2, e3⟩ := s.st.at_ n ys e
      refine ⟨a, ws, ?_, by rw [upd_ne (ne_of_none e2 hp)]; exact e2, e3.step s t⟩
      show (M.m ++ [p])[n]? = some a
      rw [List.getElem?_append_left (by rw [s.st.len]; exact hn)]; exact e1
    · have hn' : n = S.length := by
        have := (List.getElem?_eq_some_iff.mp e).1
        simp at this; omega
      subst hn'
      simp at e
      subst e
      refine ⟨p, vs, ?_, upd_same, r.step s t⟩
      show (M.m ++ [p])[S.length]? = some p
      rw [← s.st.len]; simp
  · rcases List.mem_append.mp hb with h | h
    · exact s.apart b h
    · simp at h; rw [h]; exact f2
/-- a list of the store is changed -/
theorem Sto.write {n : Nat} {a : Addr} {xs : List PV} {vs : List V} (s : Sto K bk M S H) (hn : M.m[n]? = some a) (r : Rps K bk.root M H xs vs) : Step M H M (upd H a (.lst vs)) ∧ Sto K bk M (S.set n xs) (upd H a (.lst vs)) := by
  have ha : a ∈ M.m := List.mem_of_getElem? hn
  have hl : n < S.length := by rw [← s.st.len]; exact (List.getElem?_eq_some_iff.mp hn).1
  have t : Step M H M (upd H a (.lst vs)) := ⟨⟨[], by simp⟩, rfl, fun b x h1 h2 h => by rw [upd_ne (fun z => h1 (by rw [z]; exact ha))]; exact h, fun b h => by
    by_cases e : b = a
    · rw [e, upd_same]; exact fun z => by cases z
    · rw [upd_ne e]; exact h, fun b h h' => absurd h h'⟩
  refine ⟨t, ⟨by simp [s.st.len], s.st.nd, fun j ys e => ?_⟩, s.bagS t fun b hb x e => ?_, s.apart⟩
  · by_cases hj : n = j
    · subst hj
      rw [List.getElem?_set_self hl] at e
      have e' := Option.some.inj e; subst e'
      exact ⟨a, vs, hn, upd_same, r.step s t⟩
    · rw [List.getElem?_set_ne hj] at e
      obtain ⟨b, ws, e1, e2, e3⟩ := s.st.at_ j ys e
      refine ⟨b, ws, e1, ?_, e3.step s t⟩
      rw [upd_ne]
      · exact e2
      · rintro rfl
        exact hj (nd_ix s.st.nd hn e1)
  · rw [upd_ne]
    · exact e
    · rintro rfl; exact s.apart _ ha hb
theorem to_tup {xs : List PV} {vs : List V} {a : Addr} {r : Nat} (h : SqT K H a vs) (h' : Rps K r M H xs vs) : Rp K r M H (.tup xs) (.ref a) := by rw [Rp]; exact ⟨a, vs, rfl, h, h'⟩
theorem to_lst {n : Nat} {a : Addr} {r : Nat} (h : M.m[n]? = some a) : Rp K r M H (.lst n) (.ref a) := by rw [Rp]; exact ⟨a, h, rfl⟩
/-- ends: a new tuple, a new list -/
theorem Post.tup {Q Q'} {xs : List PV} {vs : List V} (p : Post bk K M H Q Q') (s : Sto K bk M S H) (r : Rps K bk.root M H xs vs) (q : Q (.tup xs) S) : ∀ a, H a = none → Q' (.ref a) (upd H a (.tup vs)) := fun a ha =>
  p M S (upd H a (.tup vs)) (.tup xs) (.ref a) (Step.laid ha) (s.laid ha) (to_tup (SqT.of upd_same) (r.step s (Step.laid ha))) q
theorem Post.lst {Q Q'} {xs : List PV} {vs : List V} (p : Post bk K M H Q Q') (s : Sto K bk M S H) (r : Rps K bk.root M H xs vs) (q : Q (.lst S.length) (S ++ [xs])) : ∀ a, H a = none → Q' (.ref a) (upd H a (.lst vs)) := fun a ha =>
  p ⟨M.m ++ [a], M.bag⟩ (S ++ [xs]) (upd H a (.lst vs)) (.lst S.length) (.ref a) (Step.push ha) (s.push ha r) (to_lst (by show (M.m ++ [a])[S.length]? = some a; rw [← s.st.len]; simp)) q
end
section
variable {bk : BagKind} {X : Cx} {pos : Pos}
theorem szl : sizeLine = 16777216 := sizeLine_eq
theorem q_tup {es : List Expr} {f : PTA} {x1} (h : QA bk X es f) : QE bk X (.Tuple es x1 pos) (pTup f) := by
  obtain ⟨ta, pa, wa⟩ := h.ex
  refine ⟨_, pe_tup pa, fun E M ρ S σ H Q Q' R q p => ?_⟩
  refine wa E M ρ S σ H _ _ R q fun M1 S1 H1 x v t1 s1 r1 q1 => ⟨by rw [r1.length, szl]; exact q1.1, ?_⟩
  exact (p.after t1).tup s1 r1 q1.2
theorem q_lst {es : List Expr} {f : PTA} (h : QA bk X es f) : QE bk X (.List es pos) (pLst f) := by
  obtain ⟨ta, pa, wa⟩ := h.ex
  refine ⟨_, pe_lst pa, fun E M ρ S σ H Q Q' R q p => ?_⟩
  refine wa E M ρ S σ H _ _ R q fun M1 S1 H1 x v t1 s1 r1 q1 => ⟨by rw [r1.length, szl]; exact q1.1, ?_⟩
  exact (p.after t1).lst s1 r1 q1.2
end

/-! ### statements -/
def pNext : PTS := fun _ D ρ S => D.nx ρ S
def pSeq (f g : PTS) : PTS := fun E D ρ S => f E { D with nx := g E D } ρ S
def pRet (f : PTE) : PTS := fun E D ρ S => f E ρ S D.rt
def pRetN : PTS := fun _ D _ S => D.rt .non S
def pBreak : PTS := fun _ D ρ S => D.bk ρ S
def pCont : PTS := fun _ D ρ S => D.ct ρ S
def pDrop (f : PTE) : PTS := fun E D ρ S => f E ρ S fun _ S1 => D.nx ρ S1
def pIfS (c : PTT) (f g : PTS) : PTS := fun E D ρ S => c E ρ S fun b S1 => Br b (f E D ρ S1) (g E D ρ S1)
def pNever : PTS := fun _ _ _ _ => False
def pSet (i : Nat) (f : PTE) : PTS := fun E D ρ S => f E ρ S fun x S1 => D.nx (ρ.set i (some x)) S1
def pAsg (f : PTE) (g : PTG) : PTS := fun E D ρ S => f E ρ S fun x S1 => g E x ρ S1 D.nx
def pAug (i : Nat) (o : PO2) (f : PTE) : PTS := fun E D ρ S => match ρ[i]? with | some (some x) => f E ρ S fun y S1 => o x y S1 fun z S2 => D.nx (ρ.set i (some z)) S2 | _ => False
def gN (i : Nat) : PTG := fun _ x ρ S Q => Q (ρ.set i (some x)) S
abbrev PTGs := XW → List PV → PEnv → Store → (PEnv → Store → Prop) → Prop
def gsNil : PTGs := fun _ xs ρ S Q => match xs with | [] => Q ρ S | _ => False
def gsCons (g : PTG) (h : PTGs) : PTGs := fun E xs ρ S Q => match xs with | x :: ys => g E x ρ S fun ρ1 S1 => h E ys ρ1 S1 Q | [] => False
def gT (n : Nat) (h : PTGs) : PTG := fun E x ρ S Q => match x with | .tup xs => xs.length = n ∧ h E xs ρ S Q | _ => False
section
variable {bk : BagKind} {X : Cx} {pos : Pos} {st : Stmt} {rest : List Stmt} {f g : PTS} {e : Expr} {h : PTE}
theorem qs_nil : QSs bk X [] pNext := ⟨_, pss_nil, fun E M ρ S σ H D D' R q p => p.nx M ρ S σ H (.refl M H) R q⟩
theorem qs_cons (h1 : QS bk X st f) (h2 : QSs bk X rest g) : QSs bk X (st :: rest) (pSeq f g) := by
  obtain ⟨ta, pa, wa⟩ := h1.ex
  obtain ⟨tb, pb, wb⟩ := h2.ex
  refine ⟨_, pss_cons pa pb, fun E M ρ S σ H D D' R q p => ?_⟩
  exact wa E M ρ S σ H _ _ R q ⟨fun M1 ρ1 S1 σ1 H1 t1 R1 q1 => wb E M1 ρ1 S1 σ1 H1 _ _ R1 q1 (p.after t1), p.rt, p.br, p.ct⟩
theorem qs_one (h1 : QS bk X st f) : QSs bk X [st] f := by
  obtain ⟨ta, pa, wa⟩ := h1.ex
  exact ⟨_, pss_one pa, wa⟩
theorem q_ret (he : QE bk X e h) : QS bk X (.Return (some e) pos) (pRet h) := by
  obtain ⟨ta, pa, wa⟩ := he.ex
  exact ⟨_, ps_ret pa, fun E M ρ S σ H D D' R q p => wa E M ρ S σ H _ _ R q p.rt⟩
theorem q_retN : QS bk X (.Return none pos) pRetN := ⟨_, ps_retN, fun E M ρ S σ H D D' R q p => p.rt M S H _ _ (.refl M H) R.sto to_non q⟩
theorem q_pass : QS bk X (.Pass pos) pNext := ⟨_, ps_pass, fun E M ρ S σ H D D' R q p => p.nx M ρ S σ H (.refl M H) R q⟩
theorem q_break : QS bk X (.Break pos) pBreak := ⟨_, ps_break, fun E M ρ S σ H D D' R q p => p.br M ρ S σ H (.refl M H) R q⟩
theorem q_cont : QS bk X (.Continue pos) pCont := ⟨_, ps_continue, fun E M ρ S σ H D D' R q p => p.ct M ρ S σ H (.refl M H) R q⟩
theorem q_doc {x j pos'} : QS bk X (.Expr (.Constant (.str x) j pos) pos') pNext := ⟨_, ps_doc, fun E M ρ S σ H D D' R q p => p.nx M ρ S σ H (.refl M H) R q⟩
theorem q_drop (he : QE bk X e h) (hs : swapsWith e none pos.line X.env = pure false := by rfl) : QS bk X (.Expr e pos) (pDrop h) := by
  obtain ⟨ta, pa, wa⟩ := he.ex
  exact ⟨_, ps_expr pa hs, fun E M ρ S σ H D D' R q p => wa E M ρ S σ H _ _ R q fun M1 S1 H1 x v t1 s1 r1 q1 => p.nx M1 ρ S1 σ H1 t1 (R.step t1 s1) q1⟩
theorem q_ifS {c : Expr} {a b : List Stmt} {fc : PTT} (hc : QT bk X c fc) (ha : QSs bk X a f) (hb : QSs bk X b g) : QS bk X (.If c a b pos) (pIfS fc f g) := by
  obtain ⟨tc, pc, wc⟩ := hc.ex
  obtain ⟨ta, pa, wa⟩ := ha.ex
  obtain ⟨tb, pb, wb⟩ := hb.ex
  refine ⟨_, ps_if pc pa pb, fun E M ρ S σ H D D' R q p => ?_⟩
  refine wc E M ρ S σ H _ _ R q fun M1 S1 H1 d t1 s1 q1 => ?_
  cases d with
  | true => exact wa E M1 ρ S1 σ H1 _ _ (R.step t1 s1) q1 (p.after t1)
  | false => exact wb E M1 ρ S1 σ H1 _ _ (R.step t1 s1) q1 (p.after t1)
theorem q_never : QS bk X st pNever := ⟨_, ps_never, fun _ _ _ _ _ _ _ _ _ q _ => q.elim⟩
theorem q_set {i : Nat} {x : Str} {pos' : Pos} (hN : X.N.Nodup) (hi : X.N[i]? = some x) (hx : Loc X.env.scope x) (he : QE bk X e h) (hs : swapsWith e (some (.Name x pos')) pos.line X.env = pure false := by rfl)
    (hf : X.fn x = true ∨ X.env.scope.names.lookup x = some .local := by first | exact .inl rfl | exact .inr rfl | assumption) : QS bk X (.Assign [.Name x pos'] e pos) (pSet i h) := by
  obtain ⟨ta, pa, wa⟩ := he.ex
  exact ⟨_, ps_set hN hi hx pa hs hf, fun E M ρ S σ H D D' R q p => wa E M ρ S σ H _ _ R q fun M1 S1 H1 x v t1 s1 r1 q1 => p.nx M1 _ S1 _ H1 t1 ((R.step t1 s1).set i r1) q1⟩
theorem q_asg {tg : Expr} {g : PTG} (he : QE bk X e h) (hg : QG bk X tg g) (hs : swapsWithSole [tg] e pos.line X.env = pure false := by rfl) (hw : swappedStores [tg] e X.env = pure none := by rfl)
    (h1 : (assignEach [tg] X.env).map (·.2) = [assign tg X.env] := by rfl) : QS bk X (.Assign [tg] e pos) (pAsg h g) := by
  obtain ⟨ta, pa, wa⟩ := he.ex
  obtain ⟨tb, pb, wb⟩ := hg.ex
  exact ⟨_, ps_asg pa pb hs hw h1, fun E M ρ S σ H D D' R q p => wa E M ρ S σ H _ _ R q fun M1 S1 H1 x v t1 s1 r1 q1 => wb E M1 ρ S1 σ H1 x v _ _ (R.step t1 s1) r1 q1 (p.after t1).nx⟩
def PIpP (bk : BagKind) (K : PySem.W.Frag) (t : TIp) (o : PO2) : Prop := OpP bk K t o
theorem q_aug {i : Nat} {x : Str} {op : Operator} {ti : TIp} {o : PO2} {pos' : Pos} (hN : X.N.Nodup) (hi : X.N[i]? = some x) (hx : Loc X.env.scope x) (he : QE bk X e h) (ho : OpR X (inplaceOp op) ti) (hp : OpP bk X.K ti o)
    (hf : X.fn x = true ∨ X.env.scope.names.lookup x = some .local := by first | exact .inl rfl | exact .inr rfl | assumption) : QS bk X (.AugAssign (.Name x pos') op e pos) (pAug i o h) := by
  obtain ⟨ta, pa, wa⟩ := he.ex
  refine ⟨_, ps_aug hN hi hx pa ho hf, fun E M ρ S σ H D D' R q p => ?_⟩
  unfold pAug at q
  split at q
  · rename_i y e1
    obtain ⟨v, e2, r⟩ := R.slots i y e1
    refine ⟨v, e2, wa E M ρ S σ H _ _ R q fun M1 S1 H1 z w t1 s1 r1 q1 => ?_⟩
    refine hp M1 S1 H1 y z v w _ _ s1 (r.step R.sto t1) r1 q1 fun M2 S2 H2 u u' t2 s2 r2 q2 => ?_
    exact p.nx M2 _ S2 _ H2 (t1.trans t2) (((R.step t1 s1).step t2 s2).set i r2) q2
  · exact q.elim
/-- targets -/
theorem g_name {i : Nat} {x : Str} (hN : X.N.Nodup) (hi : X.N[i]? = some x) (hx : Loc X.env.scope x) (hf : X.fn x = true ∨ X.env.scope.names.lookup x = some .local := by first | exact .inl rfl | exact .inr rfl | assumption) : QG bk X (.Name x pos) (gN i) :=
  ⟨_, pg_name hN hi hx hf, fun E M ρ S σ H x v Q Q' R r q p => p M _ S _ H (.refl M H) (R.set i r) q⟩
theorem g_nil : QGs bk X [] gsNil := by
  refine ⟨_, pgs_nil, fun E M ρ S σ H x v Q Q' R r q p => ?_⟩
  cases x with
  | nil => rw [Rps] at r; exact ⟨r, p M ρ S σ H (.refl M H) R q⟩
  | cons _ _ => exact q.elim
theorem g_cons {e : Expr} {es : List Expr} {t : PTG} {u : PTGs} (h1 : QG bk X e t) (h2 : QGs bk X es u)
    (hs : (assignEach (e :: es) X.env).map (·.2) = assign e X.env :: (assignEach es X.env).map (·.2) := by rfl) : QGs bk X (e :: es) (gsCons t u) := by
  obtain ⟨ta, pa, wa⟩ := h1.ex
  obtain ⟨tb, pb, wb⟩ := h2.ex
  refine ⟨_, pgs_cons pa pb hs, fun E M ρ S σ H x v Q Q' R r q p => ?_⟩
  cases x with
  | nil => exact q.elim
  | cons y ys =>
    rw [Rps] at r
    obtain ⟨w, ws, rfl, r1, r2⟩ := r
    refine ⟨w, ws, rfl, wa E M ρ S σ H y w _ _ R r1 q fun M1 ρ1 S1 σ1 H1 t1 R1 q1 => ?_⟩
    exact wb E M1 ρ1 S1 σ1 H1 ys ws _ _ R1 (r2.step R.sto t1) q1 (p.after t1)
theorem g_tup {es : List Expr} {k : Nat} {t : PTGs} {n : Nat} (hc : X.calm = true) (h : QGs bk X es t)
    (hn : (assignEach es X.env).length = n := by rfl) (hst : (assignEach es X.env).findIdx? (·.1) = none := by rfl) : QG bk X (.Tuple es k pos) (gT n t) := by
  obtain ⟨ta, pa, wa⟩ := h.ex
  refine ⟨_, pg_tup hc pa hn hst, fun E M ρ S σ H x v Q Q' R r q p => ?_⟩
  cases x <;> first | exact q.elim | skip
  rename_i xs
  obtain ⟨a, vs, e, s, r⟩ := rp_tup r
  exact ⟨a, vs, e, s, r.length.trans q.1, wa E M ρ S σ H xs vs _ _ R r q.2 p⟩
end

/-! ### loops -/
structure PIter where
  items : List PV
  chk : Store → Prop := fun _ => True
abbrev PTI := XW → PEnv → Store → (PIter → Store → Prop) → Prop
def ItOk (bk : BagKind) (K : PySem.W.Frag) (it : PIter) (J : It) (M0 : Am) (H0 : Hp) : Prop := ∀ M S H k, Step M0 H0 M H → Sto K bk M S H → it.chk S →
  (∀ x, it.items[k]? = some x → J.go k H ∧ ∀ v H', J.yld k H v H' → Step M H M H' ∧ Sto K bk M S H' ∧ Rp K bk.root M H' x v) ∧ (it.items[k]? = none → J.stop k H)
structure QI (bk : BagKind) (X : Cx) (tg e : Expr) (f : PTI) : Prop where
  ex : ∃ t, PI X tg e t ∧ ∀ (E : XW) M ρ S σ H R R', Rel X.K bk M ρ S σ H → f E ρ S R → (∀ M' S' H' it J, Step M H M' H' → Sto X.K bk M' S' H' → ItOk bk X.K it J M' H' → R it S' → R' J H') → t σ H R'
def pForL (chk : Store → Prop) (g : PTG) (b : PTS) (E : XW) (D : PEnds) : List PV → PEnv → Store → Prop
  | [], ρ, S => chk S ∧ D.nx ρ S
  | x :: xs, ρ, S => chk S ∧ g E x ρ S fun ρ1 S1 => b E { D with nx := pForL chk g b E D xs, ct := pForL chk g b E D xs, bk := D.nx } ρ1 S1
def pFor (i : PTI) (g : PTG) (b : PTS) : PTS := fun E D ρ S => i E ρ S fun it S1 => pForL it.chk g b E D it.items ρ S1
def pWhile (c : PTT) (b : PTS) : PTS := fun E D ρ S => ∃ W : Nat → PEnv → Store → Prop, (∃ k, W k ρ S) ∧ ∀ k ρ S, W k ρ S →
  c E ρ S fun t S1 => Br t (b E { D with nx := fun ρ' S' => ∃ k', k' < k ∧ W k' ρ' S', ct := fun ρ' S' => ∃ k', k' < k ∧ W k' ρ' S', bk := D.nx } ρ S1) (D.nx ρ S1)
section
variable {bk : BagKind} {X : Cx} {pos : Pos} {f g : PTS} {e : Expr} {h : PTE}
theorem q_for {tg iter : Expr} {body : List Stmt} {i : PTI} {g : PTG} {b : PTS} (hp : PassesOwn (model X.prog X.w) X.A X.env X.xe) (hc : X.calm = true) (hi : QI bk X tg iter i) (hg : QG bk X tg g) (hb : QSs bk X body b)
    (hs : ∀ x, foldedSetIterable iter X.env x = pure x := by intro _; rfl) : QS bk X (.For tg iter body [] pos) (pFor i g b) := by
  obtain ⟨ti, pi, wi⟩ := hi.ex
  obtain ⟨tg', pg, wg⟩ := hg.ex
  obtain ⟨tb, pb, wb⟩ := hb.ex
  refine ⟨_, ps_for hp hc pi pg pb hs, fun E M ρ S σ H D D' R q p => ?_⟩
  refine wi E M ρ S σ H _ _ R q fun M1 S1 H1 it J t1 s1 ok q1 => ?_
  refine ⟨fun i k σ H => k = it.items.length - i ∧ i ≤ it.items.length ∧ ∃ M2 ρ2 S2, Step M1 H1 M2 H ∧ Rel X.K bk M2 ρ2 S2 σ H ∧ pForL it.chk g b E D (it.items.drop i) ρ2 S2,
    ⟨_, rfl, Nat.zero_le _, M1, ρ, S1, .refl M1 H1, R.step t1 s1, q1⟩, ?_⟩
  rintro i k σ2 H2 ⟨rfl, hi, M2, ρ2, S2, t2, R2, q2⟩
  by_cases hlt : i < it.items.length
  · rw [List.drop_eq_getElem_cons hlt] at q2
    obtain ⟨hck, q2⟩ := q2
    obtain ⟨hgo, hy⟩ := (ok M2 S2 H2 i t2 R2.sto hck).1 it.items[i] (by simp [hlt])
    refine .inr ⟨hgo, fun σ' H' => ∃ M3 ρ3 S3, Step M1 H1 M3 H' ∧ Rel X.K bk M3 ρ3 S3 σ' H' ∧ pForL it.chk g b E D (it.items.drop (i + 1)) ρ3 S3, fun σ' H' z => ⟨_, by omega, rfl, hlt, z⟩, fun v H3 y => ?_⟩
    obtain ⟨t3, s3, r3⟩ := hy v H3 y
    refine wg E M2 ρ2 S2 σ2 H3 _ v _ _ (R2.step t3 s3) r3 q2 fun M4 ρ4 S4 σ4 H4 t4 R4 q4 => ?_
    have tt : Step M H M4 H4 := t1.trans (t2.trans (t3.trans t4))
    refine wb E M4 ρ4 S4 σ4 H4 _ _ R4 q4 ⟨fun M5 ρ5 S5 σ5 H5 t5 R5 q5 => ⟨M5, ρ5, S5, t2.trans (t3.trans (t4.trans t5)), R5, q5⟩, (p.after tt).rt, (p.after tt).nx, fun M5 ρ5 S5 σ5 H5 t5 R5 q5 => ⟨M5, ρ5, S5, t2.trans (t3.trans (t4.trans t5)), R5, q5⟩⟩
  · have e : i = it.items.length := by omega
    subst e
    rw [List.drop_length] at q2
    obtain ⟨hck, q2⟩ := q2
    exact .inl ⟨(ok M2 S2 H2 _ t2 R2.sto hck).2 (by simp), p.nx M2 ρ2 S2 σ2 H2 (t1.trans t2) R2 q2⟩
theorem q_while {c : Expr} {body : List Stmt} {fc : PTT} {b : PTS} (hp : PassesOwn (model X.prog X.w) X.A X.env X.xe) (hc : QT bk X c fc) (hb : QSs bk X body b) : QS bk X (.While c body [] pos) (pWhile fc b) := by
  obtain ⟨tc, pc, wc⟩ := hc.ex
  obtain ⟨tb, pb, wb⟩ := hb.ex
  refine ⟨_, ps_while hp pc pb, fun E M ρ S σ H D D' R q p => ?_⟩
  obtain ⟨W, ⟨k0, w0⟩, turn⟩ := q
  refine ⟨fun k σ H' => ∃ M1 ρ1 S1, Step M H M1 H' ∧ Rel X.K bk M1 ρ1 S1 σ H' ∧ W k ρ1 S1, ⟨k0, M, ρ, S, .refl M H, R, w0⟩, ?_⟩
  rintro k σ1 H1 ⟨M1, ρ1, S1, t1, R1, w1⟩
  refine wc E M1 ρ1 S1 σ1 H1 _ _ R1 (turn k ρ1 S1 w1) fun M2 S2 H2 d t2 s2 q2 => ?_
  cases d with
  | true =>
    rw [if_pos rfl]
    have tt := t1.trans t2
    refine ⟨fun σ' H' => ∃ k', k' < k ∧ ∃ M3 ρ3 S3, Step M H M3 H' ∧ Rel X.K bk M3 ρ3 S3 σ' H' ∧ W k' ρ3 S3, fun _ _ z => z, ?_⟩
    refine wb E M2 ρ1 S2 σ1 H2 _ _ (R1.step t2 s2) q2 ⟨?_, (p.after tt).rt, (p.after tt).nx, ?_⟩
    · rintro M3 ρ3 S3 σ3 H3 t3 R3 ⟨k', hk, w3⟩
      exact ⟨k', hk, M3, ρ3, S3, tt.trans t3, R3, w3⟩
    · rintro M3 ρ3 S3 σ3 H3 t3 R3 ⟨k', hk, w3⟩
      exact ⟨k', hk, M3, ρ3, S3, tt.trans t3, R3, w3⟩
  | false =>
    rw [if_neg Bool.false_ne_true]
    exact p.nx M2 ρ1 S2 σ1 H2 (t1.trans t2) (R1.step t2 s2) q2
/-- what is walked -/
def iRange1 (f : PTE) : PTI := fun E ρ S R => f E ρ S fun x S1 => match x with
  | .int j => -(2 ^ 62) ≤ j ∧ j < 2 ^ 62 ∧ R ⟨(List.range j.toNat).map fun (i : Nat) => PV.int i, fun _ => True⟩ S1 | _ => False
def iRange2 (f g : PTE) : PTI := fun E ρ S R => f E ρ S fun x S1 => g E ρ S1 fun y S2 => match x, y with
  | .int i, .int j => (-(2 ^ 62) ≤ i ∧ i < 2 ^ 62 ∧ -(2 ^ 62) ≤ j ∧ j < 2 ^ 62) ∧ R ⟨(List.range (j - i).toNat).map fun (k : Nat) => PV.int (i + k), fun _ => True⟩ S2 | _, _ => False
theorem itok_range {K : PySem.W.Frag} {M0 : Am} {H0 : Hp} {lo : Int} {n : Nat} : ItOk bk K ⟨(List.range n).map fun (k : Nat) => PV.int (lo + k), fun _ => True⟩ (Itr lo n) M0 H0 := by
  intro M S H k t s _
  refine ⟨fun x e => ?_, fun e => ?_⟩
  · simp only [List.getElem?_map, Option.map_eq_some_iff] at e
    obtain ⟨j, e1, e2⟩ := e
    have hk : k < n := by
      have := (List.getElem?_eq_some_iff.mp e1).1
      simpa using this
    have : j = k := by
      have h2 := (List.getElem?_eq_some_iff.mp e1).2
      simpa using h2.symm
    subst this
    refine ⟨hk, fun v H' y => ?_⟩
    obtain ⟨rfl, rfl⟩ := y
    subst e2
    exact ⟨.refl M _, s, to_int⟩
  · show n ≤ k
    simpa using e
theorem qi_range1 {tg a : Expr} {p : Pos} (hg : Gl X "range") (hm : X.mg "range" = none) (ha : QE bk X a h) (hs : starEach [a] X.env = [(false, eval a X.env)] := by rfl) (he : starEach (a :: []) X.env = (false, eval a X.env) :: starEach [] X.env := by rfl) :
    QI bk X tg (.Call (.Name "range" p) [a] [] pos) (iRange1 h) := by
  obtain ⟨ta, pa, wa⟩ := ha.ex
  refine ⟨_, pi_range1 hg hm (pa_cons pa pa_nil he) hs, fun E M ρ S σ H R R' rel q k => ?_⟩
  refine wa E M ρ S σ H _ _ rel q fun M1 S1 H1 x v t1 s1 r1 q1 => ?_
  cases x <;> first | exact q1.elim | skip
  rename_i j
  have e := rp_int r1
  subst e
  refine ⟨j, rfl, q1.1, q1.2.1, k M1 S1 H1 _ _ t1 s1 ?_ q1.2.2⟩
  have := itok_range (bk := bk) (K := X.K) (M0 := M1) (H0 := H1) (lo := 0) (n := j.toNat)
  simpa using this
theorem qi_range2 {tg a b : Expr} {p : Pos} {h2 : PTE} (hg : Gl X "range") (hm : X.mg "range" = none) (ha : QE bk X a h) (hb : QE bk X b h2)
    (hs : starEach [a, b] X.env = [(false, eval a X.env), (false, eval b X.env)] := by rfl) (hs2 : starEach [b] X.env = [(false, eval b X.env)] := by rfl) (he : starEach [a, b] X.env = (false, eval a X.env) :: starEach [b] X.env := by rfl) (he2 : starEach (b :: []) X.env = (false, eval b X.env) :: starEach [] X.env := by rfl) :
    QI bk X tg (.Call (.Name "range" p) [a, b] [] pos) (iRange2 h h2) := by
  obtain ⟨ta, pa, wa⟩ := ha.ex
  obtain ⟨tb, pb, wb⟩ := hb.ex
  refine ⟨_, pi_range2 hg hm (pa_cons pa (pa_cons pb pa_nil he2) he) hs hs2, fun E M ρ S σ H R R' rel q k => ?_⟩
  refine wa E M ρ S σ H _ _ rel q fun M1 S1 H1 x v t1 s1 r1 q1 => ?_
  refine wb E M1 ρ S1 σ H1 _ _ (rel.step t1 s1) q1 fun M2 S2 H2 y w t2 s2 r2 q2 => ?_
  cases x <;> cases y <;> first | exact q2.elim | skip
  rename_i i j
  have e := rp_int r1
  have e' := rp_int r2
  subst e e'
  exact ⟨i, j, rfl, q2.1, k M2 S2 H2 _ _ (t1.trans t2) s2 itok_range q2.2⟩
/-- a value's items: a tuple's, a list's of the store, of a read list -/
def iVal (f : PTE) : PTI := fun E ρ S R => f E ρ S fun x S1 => match x with
  | .lst n => onO S1[n]? fun xs => R ⟨xs, fun S => S[n]? = some xs⟩ S1
  | .rol xs => R ⟨xs, fun _ => True⟩ S1
  | _ => False
def iTupV (f : PTE) : PTI := fun E ρ S R => f E ρ S fun x S1 => match x with
  | .tup xs => R ⟨xs, fun _ => True⟩ S1
  | _ => False
theorem qi_list {tg a : Expr} (ha : QE bk X a h) : QI bk X tg a (iVal h) := by
  obtain ⟨ta, pa, wa⟩ := ha.ex
  refine ⟨_, pi_list pa, fun E M ρ S σ H R R' rel q k => ?_⟩
  refine wa E M ρ S σ H _ _ rel q fun M1 S1 H1 x v t1 s1 r1 q1 => ?_
  cases x <;> first | exact q1.elim | skip
  · rename_i n
    obtain ⟨xs, e1, q1⟩ := onO_ex q1
    obtain ⟨a, ea, rfl⟩ := rp_lst r1
    obtain ⟨a', vs, ea', eh, rs⟩ := s1.st.at_ n xs e1
    rw [ea] at ea'
    obtain rfl := Option.some.inj ea'
    refine ⟨a, rfl, ⟨vs, .inl (.inl eh)⟩, k M1 S1 H1 _ _ t1 s1 (fun M S H k t s ck => ?_) q1⟩
    obtain ⟨b, ws, eb, ehb, rsb⟩ := s.st.at_ n xs ck
    obtain ⟨l, el⟩ := t.pre
    rw [el, List.getElem?_append_left (List.getElem?_eq_some_iff.mp ea).1, ea] at eb
    obtain rfl := Option.some.inj eb
    refine ⟨fun x e => ?_, fun e => ⟨ws, .inl (.inl ehb), ?_⟩⟩
    · obtain ⟨w, ew, rw'⟩ := rsb.get e
      refine ⟨⟨ws, w, .inl (.inl ehb), ew⟩, fun v H' y => ?_⟩
      obtain ⟨rfl, y⟩ := y
      have := y ws (.inl (.inl ehb))
      rw [ew] at this
      obtain rfl := Option.some.inj this
      exact ⟨.refl M _, s, rw'⟩
    · rw [rsb.length]; simpa using e
  · rename_i xs
    obtain ⟨a, vs, rfl, fz, rs⟩ := rp_rol r1
    refine ⟨a, rfl, ⟨vs, fz.sq⟩, k M1 S1 H1 _ _ t1 s1 (fun M S H k t s ck => ?_) q1⟩
    have kp := s1.kp t
    have fz' := (kp.l a vs fz).sq
    have rs' := rs.kp kp
    refine ⟨fun x e => ?_, fun e => ⟨vs, fz', ?_⟩⟩
    · obtain ⟨w, ew, rw'⟩ := rs'.get e
      refine ⟨⟨vs, w, fz', ew⟩, fun v H' y => ?_⟩
      obtain ⟨rfl, y⟩ := y
      have := y vs fz'
      rw [ew] at this
      obtain rfl := Option.some.inj this
      exact ⟨.refl M _, s, rw'⟩
    · rw [rs.length]; simpa using e
theorem qi_tup {tg a : Expr} (ha : QE bk X a h) : QI bk X tg a (iTupV h) := by
  obtain ⟨ta, pa, wa⟩ := ha.ex
  refine ⟨_, pi_tup pa, fun E M ρ S σ H R R' rel q k => ?_⟩
  refine wa E M ρ S σ H _ _ rel q fun M1 S1 H1 x v t1 s1 r1 q1 => ?_
  cases x <;> first | exact q1.elim | skip
  rename_i xs
  obtain ⟨a, vs, rfl, fz, rs⟩ := rp_tup r1
  refine ⟨a, rfl, ⟨vs, fz⟩, k M1 S1 H1 _ _ t1 s1 (fun M S H k t s ck => ?_) q1⟩
  have kp := s1.kp t
  have fz' := kp.t a vs fz
  have rs' := rs.kp kp
  refine ⟨fun x e => ?_, fun e => ⟨vs, fz', ?_⟩⟩
  · obtain ⟨w, ew, rw'⟩ := rs'.get e
    refine ⟨⟨vs, w, fz', ew⟩, fun v H' y => ?_⟩
    obtain ⟨rfl, y⟩ := y
    have := y vs fz'
    rw [ew] at this
    obtain rfl := Option.some.inj this
    exact ⟨.refl M _, s, rw'⟩
  · rw [rs.length]; simpa using e
end
end L2.P3
namespace L2.P3
open PySem PySem.Spec PyProof.Rows

/-! ### what refers to no list from n on -/
mutual
def below (n : Nat) : PV → Bool
  | .lst k => decide (k < n)
  | .tup xs => belows n xs
  | .rol xs => belows n xs
  | _ => true
def belows (n : Nat) : List PV → Bool
  | [] => true
  | x :: xs => below n x && belows n xs
end
section
variable {K : PySem.W.Frag} {bk : BagKind} {r : Nat} {M M' : Am} {S S' : Store} {H H' : Hp}
mutual
theorem below_of : ∀ {x : PV} {v : V}, Rp K r M H x v → below M.m.length x = true
  | .non, v, h => rfl
  | .bl _, v, h => rfl
  | .int _, v, h => rfl
  | .str _, v, h => rfl
  | .bag, v, h => rfl
  | .lst k, v, h => by
    obtain ⟨a, e, _⟩ := rp_lst h
    unfold below
    exact decide_eq_true (List.getElem?_eq_some_iff.mp e).1
  | .tup xs, v, h => by
    obtain ⟨a, vs, _, _, h⟩ := rp_tup h
    unfold below
    exact belows_of h
  | .rol xs, v, h => by
    obtain ⟨a, vs, _, _, h⟩ := rp_rol h
    unfold below
    exact belows_of h
theorem belows_of : ∀ {x : List PV} {v : List V}, Rps K r M H x v → belows M.m.length x = true
  | [], v, h => rfl
  | x :: xs, v, h => by
    rw [Rps] at h
    obtain ⟨w, ws, _, h1, h2⟩ := h
    unfold belows
    rw [below_of h1, belows_of h2]; rfl
end
mutual
theorem Rp.cut {l : List Addr} (e : M'.m = M.m ++ l) (eb : M'.bag = M.bag) : ∀ {x : PV} {v : V}, Rp K r M' H x v → below M.m.length x = true → Rp K r M H x v
  | .non, v, h, _ => by rw [Rp] at h ⊢; exact h
  | .bl _, v, h, _ => by rw [Rp] at h ⊢; exact h
  | .int _, v, h, _ => by rw [Rp] at h ⊢; exact h
  | .str _, v, h, _ => by rw [Rp] at h ⊢; exact h
  | .bag, v, h, _ => by rw [Rp] at h ⊢; rw [← eb]; exact h
  | .lst k, v, h, b => by
    obtain ⟨a, q, rfl⟩ := rp_lst h
    unfold below at b
    have hk := of_decide_eq_true b
    rw [e, List.getElem?_append_left hk] at q
    exact to_lst q
  | .tup xs, v, h, b => by
    obtain ⟨a, vs, rfl, s, h⟩ := rp_tup h
    unfold below at b
    exact to_tup s (Rps.cut e eb h b)
  | .rol xs, v, h, b => by
    obtain ⟨a, vs, rfl, s, h⟩ := rp_rol h
    unfold below at b
    rw [Rp]; exact ⟨a, vs, rfl, s, Rps.cut e eb h b⟩
theorem Rps.cut {l : List Addr} (e : M'.m = M.m ++ l) (eb : M'.bag = M.bag) : ∀ {x : List PV} {v : List V}, Rps K r M' H x v → belows M.m.length x = true → Rps K r M H x v
  | [], v, h, _ => by rw [Rps] at h ⊢; exact h
  | x :: xs, v, h, b => by
    rw [Rps] at h ⊢
    obtain ⟨w, ws, e1, h1, h2⟩ := h
    unfold belows at b
    rw [Bool.and_eq_true] at b
    exact ⟨w, ws, e1, Rp.cut e eb h1 b.1, Rps.cut e eb h2 b.2⟩
end
/-- the lists behind the first ones are forgotten -/
theorem Sto.forget {G : Store} (s : Sto K bk M S H) (t : Step M H M' H') (s' : Sto K bk M' (S ++ G) H') : Step M H M H' ∧ Sto K bk M S H' := by
  obtain ⟨l, e⟩ := t.pre
  refine ⟨⟨⟨[], by simp⟩, rfl, t.keep, t.live, fun b h h' => absurd h h'⟩, ⟨s.st.len, s.st.nd, fun n xs en => ?_⟩, by rw [← t.bag]; exact s'.bag, s.apart⟩
  have hn : n < S.length := (List.getElem?_eq_some_iff.mp en).1
  obtain ⟨a, vs, e1, e2, e3⟩ := s'.st.at_ n xs (by rw [List.getElem?_append_left hn]; exact en)
  rw [e, List.getElem?_append_left (by rw [s.st.len]; exact hn)] at e1
  obtain ⟨a0, vs0, _, _, r0⟩ := s.st.at_ n xs en
  exact ⟨a, vs, e1, e2, e3.cut e t.bag (belows_of r0)⟩
theorem Rp.only {bag : Option (List Addr)} (eb : M.bag = bag) {x : PV} {v : V} (h : Rp K r M H x v) (b : below 0 x = true) : Rp K r ⟨[], bag⟩ H x v := Rp.cut (M := ⟨[], bag⟩) (l := M.m) rfl eb h b
theorem Rps.only {bag : Option (List Addr)} (eb : M.bag = bag) {x : List PV} {v : List V} (h : Rps K r M H x v) (b : belows 0 x = true) : Rps K r ⟨[], bag⟩ H x v := Rps.cut (M := ⟨[], bag⟩) (l := M.m) rfl eb h b
theorem Kp.wide (K : PySem.W.Frag) (H : Hp) {bag : Option (List Addr)} (e : M.bag = bag) : Kp K ⟨[], bag⟩ M H H := ⟨fun n a q => by simp at q, fun own q => by rw [e]; exact q, fun _ _ h => h, fun _ _ h => h⟩
end

/-- e, and the lists that it made are forgotten -/
def pScope (f : PTE) : PTE := fun E ρ S Q => f E ρ S fun x S1 => below S.length x = true ∧ (∃ G, S1 = S ++ G) ∧ Q x S
theorem q_scope {bk : BagKind} {X : Cx} {e : Expr} {f : PTE} (h : QE bk X e f) : QE bk X e (pScope f) := by
  obtain ⟨t, p, w⟩ := h.ex
  refine ⟨t, p, fun E M ρ S σ H Q Q' R q k => w E M ρ S σ H _ _ R q fun M1 S1 H1 x v t1 s1 r1 q1 => ?_⟩
  obtain ⟨b, ⟨G, rfl⟩, q1⟩ := q1
  obtain ⟨t2, s2⟩ := R.sto.forget t1 s1
  obtain ⟨l, e⟩ := t1.pre
  exact k M S H1 x v t2 s2 (r1.cut e t1.bag (by rw [R.sto.st.len]; exact b)) q1

/-! ### defs: promises -/
abbrev PF0 := List PV → (PV → Prop) → Prop
abbrev PFS := List PV → Store → PQ → Prop
def sp0 (bk : BagKind) (K : PySem.W.Frag) (F : PF0) : Sp := fun vs H Q _ => ∃ bag xs, Sto K bk ⟨[], bag⟩ [] H ∧ Rps K bk.root ⟨[], bag⟩ H xs vs ∧
  F xs fun r => ∀ H' v, Step ⟨[], bag⟩ H ⟨[], bag⟩ H' → Sto K bk ⟨[], bag⟩ [] H' → Rp K bk.root ⟨[], bag⟩ H' r v → Q v H'
def spS (bk : BagKind) (K : PySem.W.Frag) (F : PFS) : Sp := fun vs H Q _ => ∃ M S xs, Sto K bk M S H ∧ Rps K bk.root M H xs vs ∧
  F xs S fun r S' => ∀ M' H' v, Step M H M' H' → Sto K bk M' S' H' → Rp K bk.root M' H' r v → Q v H'
def pCall0 (F : PF0) (f : PTA) : PTE := fun E ρ S Q => f E ρ S fun xs S1 => belows 0 xs = true ∧ F xs fun r => Q r S1
def pCallS (F : PFS) (f : PTA) : PTE := fun E ρ S Q => f E ρ S fun xs S1 => F xs S1 Q
def start0 (N : Nat) (xs : List PV) : PEnv := xs.map some ++ List.replicate (N - xs.length) none
def noX : XW := fun _ _ _ => False
/-- a def's body, plain values in and out -/
def pDef0 (n N : Nat) (b : PTS) : PF0 := fun xs Q => xs.length = n ∧ b noX { nx := fun _ _ => Q .non, rt := fun r _ => below 0 r = true ∧ Q r } (start0 N xs) []
/-- a def's body with the caller's store -/
def pDefS (n N : Nat) (b : PTS) : PFS := fun xs S Q => xs.length = n ∧ b noX { nx := fun _ S' => Q .non S', rt := Q } (start0 N xs) S
/-- .. the lists that it made forgotten -/
def pDefC (n N : Nat) (b : PTS) : PFS := fun xs S Q => xs.length = n ∧ b noX { nx := fun _ S' => (∃ G, S' = S ++ G) ∧ Q .non S, rt := fun r S' => below S.length r = true ∧ (∃ G, S' = S ++ G) ∧ Q r S } (start0 N xs) S
section
variable {P : Program} {w : World} {K : PySem.W.Frag} {mg : Str → Option Value} {base : Heap} {bk : BagKind}
theorem rel_start {M : Am} {S : Store} {H : Hp} {xs : List PV} {vs : List V} {N : List Str} (s : Sto K bk M S H) (r : Rps K bk.root M H xs vs) : Rel K bk M (start0 N.length xs) S (start N vs) H := by
  have hl := r.length
  refine ⟨by unfold start0 start; simp [hl], fun i x e => ?_, s⟩
  unfold start0 at e
  by_cases hi : i < xs.length
  · rw [List.getElem?_append_left (by simpa using hi), List.getElem?_map, List.getElem?_eq_getElem hi] at e
    have e' : xs[i] = x := by simpa using e
    obtain ⟨v, ev, rv⟩ := r.get (i := i) (x := x) (by rw [List.getElem?_eq_getElem hi, e'])
    refine ⟨v, ?_, rv⟩
    unfold start
    rw [List.getElem?_append_left (by simpa [hl] using hi), List.getElem?_map, ev]; rfl
  · rw [List.getElem?_append_right (by simpa using hi), List.getElem?_replicate] at e
    split at e <;> simp at e
theorem ok0 {x qual : Str} {st : Stmt} {f : Addr} {fd : FuncData} {N ps : List Str} {k n : Nat} {b : PTS} (F : Fun K x qual st f fd) (Sc : FnScope N ps (defScope st)) (hn : ps.length = n)
    (h : ∀ (cdv : Value) (A : Around) (outer : List PySem.Env) (s : Shared) (H : Hp) (E : XK), Room k (A.deeper (envOfC qual (defScope st) s.heap.objs.size f cdv)) → QSs bk (cxOf CX0 P w K mg base N qual (defScope st) f cdv A outer s H E).nox (defBody st) b) :
    FnOk P w K mg base CX0 (k + 1) f fd ps (sp0 bk K (pDef0 n N.length b)) := by
  refine F.ok Sc (fun vs H Q E q => ?_) (fun cdv A outer s H vs Q E hr q => ?_)
  · obtain ⟨bag, xs, _, r, hl, _⟩ := q
    rw [r.length, hl, hn]
  · obtain ⟨bag, xs, st0, r, hl, q⟩ := q
    obtain ⟨t, p, wt⟩ := (h cdv A outer s H E hr).ex
    refine ⟨t, p, wt noX ⟨[], bag⟩ (start0 N.length xs) [] (start N vs) H _ _ (rel_start st0 r) q ⟨?_, ?_, fun _ _ _ _ _ _ _ z => z.elim, fun _ _ _ _ _ _ _ z => z.elim⟩⟩
    · intro M' ρ' S' σ' H' t' R' q'
      have f := st0.forget (G := S') t' R'.sto
      exact q' H' .non f.1 f.2 to_non
    · intro M' S' H' x v t' s' r' q'
      have f := st0.forget (G := S') t' s'
      exact q'.2 H' v f.1 f.2 (r'.only t'.bag q'.1)
theorem okS {x qual : Str} {st : Stmt} {f : Addr} {fd : FuncData} {N ps : List Str} {k n : Nat} {b : PTS} (F : Fun K x qual st f fd) (Sc : FnScope N ps (defScope st)) (hn : ps.length = n)
    (h : ∀ (cdv : Value) (A : Around) (outer : List PySem.Env) (s : Shared) (H : Hp) (E : XK), Room k (A.deeper (envOfC qual (defScope st) s.heap.objs.size f cdv)) → QSs bk (cxOf CX0 P w K mg base N qual (defScope st) f cdv A outer s H E).nox (defBody st) b) :
    FnOk P w K mg base CX0 (k + 1) f fd ps (spS bk K (pDefS n N.length b)) := by
  refine F.ok Sc (fun vs H Q E q => ?_) (fun cdv A outer s H vs Q E hr q => ?_)
  · obtain ⟨M, S, xs, _, r, hl, _⟩ := q
    rw [r.length, hl, hn]
  · obtain ⟨M, S, xs, st0, r, hl, q⟩ := q
    obtain ⟨t, p, wt⟩ := (h cdv A outer s H E hr).ex
    refine ⟨t, p, wt noX M (start0 N.length xs) S (start N vs) H _ _ (rel_start st0 r) q ⟨?_, ?_, fun _ _ _ _ _ _ _ z => z.elim, fun _ _ _ _ _ _ _ z => z.elim⟩⟩
    · intro M' ρ' S' σ' H' t' R' q'
      exact q' M' H' .non t' R'.sto to_non
    · intro M' S' H' x v t' s' r' q'
      exact q' M' H' v t' s' r'
theorem okC {x qual : Str} {st : Stmt} {f : Addr} {fd : FuncData} {N ps : List Str} {k n : Nat} {b : PTS} (F : Fun K x qual st f fd) (Sc : FnScope N ps (defScope st)) (hn : ps.length = n)
    (h : ∀ (cdv : Value) (A : Around) (outer : List PySem.Env) (s : Shared) (H : Hp) (E : XK), Room k (A.deeper (envOfC qual (defScope st) s.heap.objs.size f cdv)) → QSs bk (cxOf CX0 P w K mg base N qual (defScope st) f cdv A outer s H E).nox (defBody st) b) :
    FnOk P w K mg base CX0 (k + 1) f fd ps (spS bk K (pDefC n N.length b)) := by
  refine F.ok Sc (fun vs H Q E q => ?_) (fun cdv A outer s H vs Q E hr q => ?_)
  · obtain ⟨M, S, xs, _, r, hl, _⟩ := q
    rw [r.length, hl, hn]
  · obtain ⟨M, S, xs, st0, r, hl, q⟩ := q
    obtain ⟨t, p, wt⟩ := (h cdv A outer s H E hr).ex
    refine ⟨t, p, wt noX M (start0 N.length xs) S (start N vs) H _ _ (rel_start st0 r) q ⟨?_, ?_, fun _ _ _ _ _ _ _ z => z.elim, fun _ _ _ _ _ _ _ z => z.elim⟩⟩
    · rintro M' ρ' S' σ' H' t' R' ⟨⟨G, rfl⟩, q'⟩
      have f := st0.forget t' R'.sto
      exact q' M H' .non f.1 f.2 to_non
    · rintro M' S' H' x v t' s' r' ⟨hb, ⟨G, rfl⟩, q'⟩
      have f := st0.forget t' s'
      obtain ⟨l, e⟩ := t'.pre
      exact q' M H' v f.1 f.2 (r'.cut e t'.bag (by rw [st0.st.len]; exact hb))
/-- a promise by another one -/
theorem sp0_imp {F F' : PF0} {CX : CXT} {k : Nat} {f : Addr} {fd : FuncData} {ps : List Str} (h : FnOk P w K mg base CX k f fd ps (sp0 bk K F)) (i : ∀ xs Q, F' xs Q → F xs Q) : FnOk P w K mg base CX k f fd ps (sp0 bk K F') :=
  h.imp fun _ _ _ _ ⟨bag, xs, s, r, q⟩ => ⟨bag, xs, s, r, i _ _ q⟩
theorem spS_imp {F F' : PFS} {CX : CXT} {k : Nat} {f : Addr} {fd : FuncData} {ps : List Str} (h : FnOk P w K mg base CX k f fd ps (spS bk K F)) (i : ∀ xs S Q, F' xs S Q → F xs S Q) : FnOk P w K mg base CX k f fd ps (spS bk K F') :=
  h.imp fun _ _ _ _ ⟨M, S, xs, s, r, q⟩ => ⟨M, S, xs, s, r, i _ _ _ q⟩
end
/-- from a plain call's promise to what stands around -/
theorem call0_ok {K : PySem.W.Frag} {bk : BagKind} {M : Am} {S : Store} {H : Hp} {xs : List PV} {vs : List V} {F : PF0} {Q Q'} {E : XK} (s : Sto K bk M S H) (r : Rps K bk.root M H xs vs) (hb : belows 0 xs = true) (q : F xs fun r => Q r S) (p : Post bk K M H Q Q') : sp0 bk K F vs H Q' E → sp0 bk K F vs H Q' E := id
theorem sp0_of {K : PySem.W.Frag} {bk : BagKind} {M : Am} {S : Store} {H : Hp} {xs : List PV} {vs : List V} {F : PF0} {Q Q'} {E : XK} (s : Sto K bk M S H) (r : Rps K bk.root M H xs vs) (hb : belows 0 xs = true) (mono : ∀ Q1 Q2 : PV → Prop, (∀ r, Q1 r → Q2 r) → F xs Q1 → F xs Q2) (q : F xs fun r => Q r S) (p : Post bk K M H Q Q') : sp0 bk K F vs H Q' E := by
  refine ⟨M.bag, xs, ⟨⟨rfl, List.nodup_nil, fun n xs e => by simp at e⟩, s.bag, fun b h => by simp at h⟩, r.only rfl hb, mono _ _ (fun x q1 => ?_) q⟩
  intro H' v t s' r'
  have t' : Step M H M H' := ⟨⟨[], by simp⟩, rfl, fun b x h1 h2 h => t.keep b x (by simp) h2 h, t.live, fun b h h' => absurd h h'⟩
  refine p M S H' x v t' ⟨⟨s.st.len, s.st.nd, fun n xs e => ?_⟩, s'.bag, s.apart⟩ (r'.kp (Kp.wide K H' rfl)) q1
  obtain ⟨a, ws, e1, e2, e3⟩ := s.st.at_ n xs e
  exact ⟨a, ws, e1, t.keep a _ (by simp) (s.apart a (List.mem_of_getElem? e1)) e2, e3.step s t'⟩
end L2.P3
namespace L2.P3
open PySem PySem.Spec PyProof.Rows

/-! ### weaker wishes -/
class MoE (f : PTE) : Prop where
  mo : ∀ {E ρ S} {Q Q' : PQ}, (∀ x S, Q x S → Q' x S) → f E ρ S Q → f E ρ S Q'
class MoA (f : PTA) : Prop where
  mo : ∀ {E ρ S} {Q Q' : List PV → Store → Prop}, (∀ x S, Q x S → Q' x S) → f E ρ S Q → f E ρ S Q'
class MoT (f : PTT) : Prop where
  mo : ∀ {E ρ S} {Q Q' : Bool → Store → Prop}, (∀ x S, Q x S → Q' x S) → f E ρ S Q → f E ρ S Q'
class MoO (f : PTO) : Prop where
  mo : ∀ {E ρ S} {Q Q' : Option Int → Store → Prop}, (∀ x S, Q x S → Q' x S) → f E ρ S Q → f E ρ S Q'
class MoI (f : PTI) : Prop where
  mo : ∀ {E ρ S} {Q Q' : PIter → Store → Prop}, (∀ x S, Q x S → Q' x S) → f E ρ S Q → f E ρ S Q'
class Mo2 (o : PO2) : Prop where
  mo : ∀ {x y S} {Q Q' : PQ}, (∀ x S, Q x S → Q' x S) → o x y S Q → o x y S Q'
class Mo1 (o : PO1) : Prop where
  mo : ∀ {x S} {Q Q' : PQ}, (∀ x S, Q x S → Q' x S) → o x S Q → o x S Q'
class MoC (o : PCl) : Prop where
  mo : ∀ {x S} {Q Q' : PQ}, (∀ x S, Q x S → Q' x S) → o x S Q → o x S Q'
class Mo0 (F : PF0) : Prop where
  mo : ∀ {x} {Q Q' : PV → Prop}, (∀ x, Q x → Q' x) → F x Q → F x Q'
class MoF (F : PFS) : Prop where
  mo : ∀ {x S} {Q Q' : PQ}, (∀ x S, Q x S → Q' x S) → F x S Q → F x S Q'
class MoG (g : PTG) : Prop where
  mo : ∀ {E x ρ S} {Q Q' : PEnv → Store → Prop}, (∀ x S, Q x S → Q' x S) → g E x ρ S Q → g E x ρ S Q'
class MoGs (g : PTGs) : Prop where
  mo : ∀ {E x ρ S} {Q Q' : PEnv → Store → Prop}, (∀ x S, Q x S → Q' x S) → g E x ρ S Q → g E x ρ S Q'
structure PEnds.Le (D D' : PEnds) : Prop where
  nx : ∀ ρ S, D.nx ρ S → D'.nx ρ S
  rt : ∀ x S, D.rt x S → D'.rt x S
  bk : ∀ ρ S, D.bk ρ S → D'.bk ρ S
  ct : ∀ ρ S, D.ct ρ S → D'.ct ρ S
class MoS (f : PTS) : Prop where
  mo : ∀ {E ρ S} {D D' : PEnds}, D.Le D' → f E D ρ S → f E D' ρ S
section
variable {f g : PTE} {fa ga : PTA} {ft gt : PTT} {fs gs : PTS} {i : Nat} {x : PV}
instance : MoE (pVar i) := ⟨fun h q => by unfold pVar at q ⊢; split <;> simp_all⟩
instance : MoE (pC x) := ⟨fun h q => h _ _ q⟩
instance {o : PO2} [Mo2 o] [MoE f] [MoE g] : MoE (pOp o f g) := ⟨fun h q => MoE.mo (f := f) (fun _ _ q => MoE.mo (f := g) (fun _ _ q => Mo2.mo h q) q) q⟩
instance {o : PO1} [Mo1 o] [MoE f] : MoE (pUn o f) := ⟨fun h q => MoE.mo (f := f) (fun _ _ q => Mo1.mo h q) q⟩
instance {o : PCl} [MoC o] [MoA fa] : MoE (pCl o fa) := ⟨fun h q => MoA.mo (f := fa) (fun _ _ q => MoC.mo h q) q⟩
instance : MoA pANil := ⟨fun h q => h _ _ q⟩
instance [MoE f] [MoA fa] : MoA (pACons f fa) := ⟨fun h q => MoE.mo (f := f) (fun _ _ q => MoA.mo (f := fa) (fun _ _ q => h _ _ q) q) q⟩
instance [MoT ft] [MoE f] [MoE g] : MoE (pIf ft f g) := ⟨fun h q => MoT.mo (f := ft) (fun b _ q => by
  cases b
  · exact MoE.mo (f := g) h q
  · exact MoE.mo (f := f) h q) q⟩
instance [MoE f] : MoT (pTB f) := ⟨fun h q => MoE.mo (f := f) (fun x _ q => by cases x <;> first | exact q.elim | exact h _ _ q) q⟩
instance [MoT ft] [MoT gt] : MoT (pAnd ft gt) := ⟨fun h q => MoT.mo (f := ft) (fun b _ q => by
  cases b
  · exact h _ _ q
  · exact MoT.mo (f := gt) h q) q⟩
instance [MoT ft] [MoT gt] : MoT (pOr ft gt) := ⟨fun h q => MoT.mo (f := ft) (fun b _ q => by
  cases b
  · exact MoT.mo (f := gt) h q
  · exact h _ _ q) q⟩
instance [MoT ft] : MoT (pNot ft) := ⟨fun h q => MoT.mo (f := ft) (fun b _ q => h _ _ q) q⟩
instance [MoE f] [MoE g] : MoE (pAndV f g) := ⟨fun h q => MoE.mo (f := f) (fun x _ q => by
  cases x <;> first | exact q.elim | skip
  rename_i b
  cases b
  · exact h _ _ q
  · exact MoE.mo (f := g) h q) q⟩
instance [MoE f] [MoE g] : MoE (pOrV f g) := ⟨fun h q => MoE.mo (f := f) (fun x _ q => by
  cases x <;> first | exact q.elim | skip
  rename_i b
  cases b
  · exact MoE.mo (f := g) h q
  · exact h _ _ q) q⟩
instance [MoE f] : MoE (pNotV f) := ⟨fun h q => MoE.mo (f := f) (fun x _ q => by cases x <;> first | exact q.elim | exact h _ _ q) q⟩
instance [MoA fa] : MoE (pTup fa) := ⟨fun h q => MoA.mo (f := fa) (fun _ _ q => ⟨q.1, h _ _ q.2⟩) q⟩
instance [MoA fa] : MoE (pLst fa) := ⟨fun h q => MoA.mo (f := fa) (fun _ _ q => ⟨q.1, h _ _ q.2⟩) q⟩
instance [MoE f] : MoE (pScope f) := ⟨fun h q => MoE.mo (f := f) (fun _ _ q => ⟨q.1, q.2.1, h _ _ q.2.2⟩) q⟩
instance {F : PF0} [Mo0 F] [MoA fa] : MoE (pCall0 F fa) := ⟨fun h q => MoA.mo (f := fa) (fun _ _ q => ⟨q.1, Mo0.mo (F := F) (fun _ q => h _ _ q) q.2⟩) q⟩
instance {F : PFS} [MoF F] [MoA fa] : MoE (pCallS F fa) := ⟨fun h q => MoA.mo (f := fa) (fun _ _ q => MoF.mo (F := F) h q) q⟩
instance : MoS pNext := ⟨fun h q => h.nx _ _ q⟩
instance [MoS fs] [MoS gs] : MoS (pSeq fs gs) := ⟨fun {E ρ S D D'} h q => by
  unfold pSeq at q ⊢
  refine MoS.mo (f := fs) ?_ q
  exact ⟨fun _ _ q => MoS.mo (f := gs) h q, h.rt, h.bk, h.ct⟩⟩
instance [MoE f] : MoS (pRet f) := ⟨fun h q => MoE.mo (f := f) h.rt q⟩
instance : MoS pRetN := ⟨fun h q => h.rt _ _ q⟩
instance : MoS pBreak := ⟨fun h q => h.bk _ _ q⟩
instance : MoS pCont := ⟨fun h q => h.ct _ _ q⟩
instance : MoS pNever := ⟨fun h q => q.elim⟩
instance [MoE f] : MoS (pDrop f) := ⟨fun h q => MoE.mo (f := f) (fun _ _ q => h.nx _ _ q) q⟩
instance [MoT ft] [MoS fs] [MoS gs] : MoS (pIfS ft fs gs) := ⟨fun h q => MoT.mo (f := ft) (fun b _ q => by
  cases b
  · exact MoS.mo (f := gs) h q
  · exact MoS.mo (f := fs) h q) q⟩
instance [MoE f] : MoS (pSet i f) := ⟨fun h q => MoE.mo (f := f) (fun _ _ q => h.nx _ _ q) q⟩
instance {g : PTG} [MoE f] [MoG g] : MoS (pAsg f g) := ⟨fun h q => MoE.mo (f := f) (fun _ _ q => MoG.mo (g := g) h.nx q) q⟩
instance {o : PO2} [Mo2 o] [MoE f] : MoS (pAug i o f) := ⟨fun h q => by
  unfold pAug at q ⊢
  split at q
  · exact MoE.mo (f := f) (fun _ _ q => Mo2.mo (fun _ _ q => h.nx _ _ q) q) q
  · exact q.elim⟩
instance : MoG (gN i) := ⟨fun h q => h _ _ q⟩
instance : MoGs gsNil := ⟨fun {_ x _ _ _ _} h q => by cases x <;> first | exact h _ _ q | exact q.elim⟩
instance {g : PTG} {gs : PTGs} [MoG g] [MoGs gs] : MoGs (gsCons g gs) := ⟨fun {_ x _ _ _ _} h q => by
  cases x
  · exact q.elim
  · exact MoG.mo (g := g) (fun _ _ q => MoGs.mo (g := gs) h q) q⟩
instance {n : Nat} {gs : PTGs} [MoGs gs] : MoG (gT n gs) := ⟨fun {_ x _ _ _ _} h q => by
  cases x <;> first | exact q.elim | exact ⟨q.1, MoGs.mo (g := gs) h q.2⟩⟩
theorem pForL_mo {chk : Store → Prop} {g : PTG} {b : PTS} [MoG g] [MoS b] {E : XW} {D D' : PEnds} (h : D.Le D') : ∀ {xs : List PV} {ρ : PEnv} {S : Store}, pForL chk g b E D xs ρ S → pForL chk g b E D' xs ρ S
  | [], ρ, S, q => ⟨q.1, h.nx _ _ q.2⟩
  | x :: xs, ρ, S, q => by
    unfold pForL at q ⊢
    refine ⟨q.1, MoG.mo (g := g) (fun _ _ q => ?_) q.2⟩
    refine MoS.mo (f := b) ?_ q
    exact ⟨fun _ _ q => pForL_mo h q, h.rt, h.nx, fun _ _ q => pForL_mo h q⟩
instance {i : PTI} {g : PTG} {b : PTS} [MoI i] [MoG g] [MoS b] : MoS (pFor i g b) := ⟨fun h q => MoI.mo (f := i) (fun _ _ q => pForL_mo h q) q⟩
instance {c : PTT} {b : PTS} [MoT c] [MoS b] : MoS (pWhile c b) := ⟨fun h q => by
  obtain ⟨W, w0, t⟩ := q
  refine ⟨W, w0, fun k ρ S w => MoT.mo (f := c) (fun d _ q => ?_) (t k ρ S w)⟩
  cases d with
  | false =>
    exact h.nx _ _ q
  | true =>
    refine MoS.mo (f := b) ?_ q
    exact ⟨fun _ _ q => q, h.rt, h.nx, fun _ _ q => q⟩⟩
instance [MoE f] : MoI (iRange1 f) := ⟨fun h q => MoE.mo (f := f) (fun x _ q => by cases x <;> first | exact q.elim | exact ⟨q.1, q.2.1, h _ _ q.2.2⟩) q⟩
instance [MoE f] [MoE g] : MoI (iRange2 f g) := ⟨fun h q => MoE.mo (f := f) (fun x _ q => MoE.mo (f := g) (fun y _ q => by cases x <;> cases y <;> first | exact q.elim | exact ⟨q.1, h _ _ q.2⟩) q) q⟩
instance [MoE f] : MoI (iVal f) := ⟨fun h q => MoE.mo (f := f) (fun x _ q => by
  cases x <;> first | exact q.elim | skip
  · exact onO_mo (fun _ q => h _ _ q) q
  · exact h _ _ q) q⟩
instance [MoE f] : MoI (iTupV f) := ⟨fun h q => MoE.mo (f := f) (fun x _ q => by cases x <;> first | exact q.elim | exact h _ _ q) q⟩
instance {n N : Nat} {b : PTS} [MoS b] : Mo0 (pDef0 n N b) := ⟨fun h q => by
  refine ⟨q.1, MoS.mo (f := b) ?_ q.2⟩
  exact ⟨fun _ _ q => h _ q, fun _ _ q => ⟨q.1, h _ q.2⟩, fun _ _ q => q, fun _ _ q => q⟩⟩
instance {n N : Nat} {b : PTS} [MoS b] : MoF (pDefS n N b) := ⟨fun h q => by
  refine ⟨q.1, MoS.mo (f := b) ?_ q.2⟩
  exact ⟨fun _ _ q => h _ _ q, fun _ _ q => h _ _ q, fun _ _ q => q, fun _ _ q => q⟩⟩
instance {n N : Nat} {b : PTS} [MoS b] : MoF (pDefC n N b) := ⟨fun h q => by
  refine ⟨q.1, MoS.mo (f := b) ?_ q.2⟩
  exact ⟨fun _ _ q => ⟨q.1, h _ _ q.2⟩, fun _ _ q => ⟨q.1, q.2.1, h _ _ q.2.2⟩, fun _ _ q => q, fun _ _ q => q⟩⟩
end

/-! ### calls of defs -/
/-- the values in another order -/
def pick {α : Type} (idx : List Nat) (l : List α) : List α := idx.filterMap fun i => l[i]?
def pPick (idx : List Nat) (f : PTA) : PTA := fun E ρ S Q => f E ρ S fun xs S1 => Q (pick idx xs) S1
instance {idx : List Nat} {f : PTA} [MoA f] : MoA (pPick idx f) := ⟨fun h q => MoA.mo (f := f) (fun _ _ q => h _ _ q) q⟩
/-- how a call with keywords binds -/
structure KB (K : PySem.W.Frag) (fd : FuncData) (ps : List Str) (n : Nat) (ks : List Str) (idx : List Nat) : Prop where
  to : ∀ (s : Shared) (us ws : List Value), us.length = n → ws.length = ks.length → BindsTo s fd ⟨us, ks.zip ws⟩ (ps.zip (pick idx (us ++ ws)))
theorem Fun.kb {K : PySem.W.Frag} {x qual : Str} {st : Stmt} {f : Addr} {fd : FuncData} {ps : List Str} (F : Fun K x qual st f fd) (n : Nat) (ks : List Str) (idx : List Nat)
    (h : ∀ (kV doc pm : Value) (an : Option Addr) (cdv ct : Value) (us ws : List Value), us.length = n → ws.length = ks.length → bindArgs (PySem.W.fnOf x qual (defArgs st) (defBody st) (defScope st) .none kV doc pm an cdv ct) ⟨us, ks.zip ws⟩ = pure (ps.zip (pick idx (us ++ ws)))) : KB K fd ps n ks idx := by
  obtain ⟨oc, od, kV, doc, pm, an, cdv, ct, osl, rfl, lk, hcd⟩ := F.ex
  exact ⟨fun s us ws l1 l2 => .of_eq (h kV doc pm an cdv ct us ws l1 l2)⟩
theorem pick_rel {α β : Type} {R : α → β → Prop} {l : List α} {l' : List β} (h : Paired R l l') : ∀ idx : List Nat, Paired R (pick idx l) (pick idx l')
  | [] => .nil
  | i :: idx => by
    have key : ∀ {l : List α} {l' : List β} (j : Nat), Paired R l l' → (l[j]? = none ∧ l'[j]? = none) ∨ ∃ a b, l[j]? = some a ∧ l'[j]? = some b ∧ R a b := by
      intro l l' j h
      induction h generalizing j with
      | nil => simp
      | cons r t ih =>
        cases j with
        | zero => exact .inr ⟨_, _, rfl, rfl, r⟩
        | succ j => simpa using ih j
    have ih := pick_rel h idx
    unfold pick at ih ⊢
    rcases key i h with ⟨e1, e2⟩ | ⟨a, b, e1, e2, r⟩
    · rw [List.filterMap_cons_none e1, List.filterMap_cons_none e2]; exact ih
    · rw [List.filterMap_cons_some e1, List.filterMap_cons_some e2]; exact .cons r ih
theorem rps_paired {K : PySem.W.Frag} {r : Nat} {M : Am} {H : Hp} : ∀ {xs : List PV} {vs : List V}, Rps K r M H xs vs ↔ Paired (Rp K r M H) xs vs
  | [], vs => by
    rw [Rps]
    constructor
    · rintro rfl; exact .nil
    · intro h; cases h; rfl
  | x :: xs, vs => by
    rw [Rps]
    constructor
    · rintro ⟨v, ws, rfl, h1, h2⟩; exact .cons h1 (rps_paired.mp h2)
    · intro h; cases h with
      | cons h1 h2 => exact ⟨_, _, rfl, h1, rps_paired.mpr h2⟩
theorem Rps.pick {K : PySem.W.Frag} {r : Nat} {M : Am} {H : Hp} {xs : List PV} {vs : List V} (idx : List Nat) (h : Rps K r M H xs vs) : Rps K r M H (P3.pick idx xs) (P3.pick idx vs) := rps_paired.mpr (pick_rel (rps_paired.mp h) idx)
section
variable {bk : BagKind} {X : Cx} {k : Nat} {f : Addr} {fd : FuncData} {ps ks : List Str} {sp : Sp} {x : Str} {p pos : Pos} {e : Expr} {es : List Expr} {kws : List Keyword} {fa fk : PTA}
/-- a promise of a def, and what stands for it -/
def PromE (bk : BagKind) (K : PySem.W.Frag) (sp : Sp) (c : PCl) : Prop := ∀ M S H xs vs Q Q' E, Sto K bk M S H → Rps K bk.root M H xs vs → c xs S Q → Post bk K M H Q Q' → sp vs H Q' E
def c0 (F : PF0) : PCl := fun xs S Q => belows 0 xs = true ∧ F xs fun r => Q r S
theorem prom0 {K : PySem.W.Frag} {F : PF0} [Mo0 F] : PromE bk K (sp0 bk K F) (c0 F) := fun M S H xs vs Q Q' E s r q p => sp0_of s r q.1 (fun _ _ h q => Mo0.mo (F := F) h q) q.2 p
theorem promS {K : PySem.W.Frag} {F : PFS} [MoF F] : PromE bk K (spS bk K F) F := fun M S H xs vs Q Q' E s r q p => ⟨M, S, xs, s, r, MoF.mo (F := F) (fun x S1 q1 M' H' v t s' r' => p M' S1 H' x v t s' r' q1) q⟩
instance {F : PF0} [Mo0 F] : MoC (c0 F) := ⟨fun h q => ⟨q.1, Mo0.mo (F := F) (fun _ q => h _ _ q) q.2⟩⟩
instance {F : PFS} [MoF F] : MoC F := ⟨fun h q => MoF.mo (F := F) h q⟩
theorem q_call {c : PCl} (G : FnOk X.prog X.w X.K X.mg X.base CX0 k f fd ps sp) (pr : PromE bk X.K sp c) (hr : Room k X.A) (hg : Gl X x) (hm : X.mg x = some (.ref f)) (hk : PySem.W.keepIn X.K (.ref f) = true) (hb : Binds X.K fd ps [])
    (ha : QA bk X (e :: es) fa) (hdb : (x == ("__debug__" : Str)) = false := by decide) (he : starEach (e :: es) X.env = (false, eval e X.env) :: starEach es X.env := by rfl) (hpl : (backTo pos (starEach es X.env)).any (·.1) = false := by rfl) :
    QE bk X (.Call (.Name x p) (e :: es) [] pos) (pCl c fa) := by
  obtain ⟨ta, pa, wa⟩ := ha.ex
  refine ⟨_, pe_call G hr hg hm hk hb .nil (pass0 (X := X)) pa hdb he hpl, fun E M ρ S σ H Q Q' R q p => ?_⟩
  refine wa E M ρ S σ H _ _ R q fun M1 S1 H1 xs vs t1 s1 r1 q1 => ?_
  show sp (vs ++ []) H1 Q' E0
  rw [List.append_nil]
  exact pr M1 S1 H1 xs vs Q Q' _ s1 r1 q1 (p.after t1)
theorem q_callN {c : PCl} (G : FnOk X.prog X.w X.K X.mg X.base CX0 k f fd ps sp) (pr : PromE bk X.K sp c) (hr : Room k X.A) (hg : Gl X x) (hm : X.mg x = some (.ref f)) (hk : PySem.W.keepIn X.K (.ref f) = true) (hb : Binds X.K fd ps [])
    (hdb : (x == ("__debug__" : Str)) = false := by decide) : QE bk X (.Call (.Name x p) [] [] pos) (pCl c pANil) := by
  refine ⟨_, pe_call0 G hr hg hm hk hb .nil (pass0 (X := X)) hdb, fun E M ρ S σ H Q Q' R q p => ?_⟩
  exact pr M S H [] [] Q Q' _ R.sto .nil q p
structure QK (bk : BagKind) (X : Cx) (kws : List Keyword) (f : PTA) : Prop where
  ex : ∃ t, PK X kws t ∧ ∀ (E : XW) M ρ S σ H Q Q', Rel X.K bk M ρ S σ H → f E ρ S Q → PostA bk X.K M H Q Q' → t σ H Q'
theorem q_knil : QK bk X [] pANil := ⟨_, pk_nil, fun E M ρ S σ H Q Q' R q p => p M S H [] [] (.refl M H) R.sto .nil q⟩
theorem q_kcons {nm : Option Str} {kpos : Pos} {g : PTE} (ha : QE bk X e g) (hs : QK bk X kws fk) : QK bk X (⟨nm, e, kpos⟩ :: kws) (pACons g fk) := by
  obtain ⟨ta, pa, wa⟩ := ha.ex
  obtain ⟨tb, pb, wb⟩ := hs.ex
  refine ⟨_, pk_cons pa pb, fun E M ρ S σ H Q Q' R q p => ?_⟩
  refine wa E M ρ S σ H _ _ R q fun M1 S1 H1 x v t1 s1 r1 q1 => ?_
  refine wb E M1 ρ S1 σ H1 _ _ (R.step t1 s1) q1 fun M2 S2 H2 y w t2 s2 r2 q2 => ?_
  exact p M2 S2 H2 _ _ (t1.trans t2) s2 (.cons (r1.step s1 t2) r2) q2
/-- the arguments of a call with keywords, all in one list -/
def pApp (m : Nat) (n : Nat) (f g : PTA) : PTA := fun E ρ S Q => f E ρ S fun xs S1 => g E ρ S1 fun ys S2 => xs.length = m ∧ ys.length = n ∧ Q (xs ++ ys) S2
instance {m n : Nat} [MoA fa] [MoA fk] : MoA (pApp m n fa fk) := ⟨fun h q => MoA.mo (f := fa) (fun _ _ q => MoA.mo (f := fk) (fun _ _ q => ⟨q.1, q.2.1, h _ _ q.2.2⟩) q) q⟩
theorem run_kb {n : Nat} {idx : List Nat} {pins : List (Addr × Obj)} {σ : St} {H : Hp} {s : Shared} {Q : VK} {us ws : List Value} {vs zs : List V} (G : FnOk X.prog X.w X.K X.mg X.base CX0 k f fd ps sp) (hr : Room k X.A) (hb : KB X.K fd ps n ks idx)
    (I : Inv X pins σ H s) (r : Vals vs us) (rz : Vals zs ws) (l1 : vs.length = n) (l2 : zs.length = ks.length) (h : sp (pick idx (vs ++ zs)) H Q E0) : wpAny (model X.prog X.w) X.A (call (.ref f) us (ks.zip ws)) (EP X pins σ Q) X.xe s := by
  have r2 : Vals (pick idx (vs ++ zs)) (pick idx (us ++ ws)) := pick_rel (r.append rz) idx
  refine wpAny_call (codeAny_mono (G.run X.A X.stack s H ⟨us, ks.zip ws⟩ _ _ Q E0 hr I.env0 (hb.to s us ws (by rw [← r.length]; exact l1) (by rw [← rz.length]; exact l2)) r2 h) fun r s' hq => ?_)
  cases r with
  | error e => exact False.elim hq
  | ok fl =>
    cases fl with
    | ret u => exact I.after hq
    | next => exact False.elim hq
    | brk => exact False.elim hq
    | cont => exact False.elim hq
theorem q_callK0 {c : PCl} {m : Nat} {idx : List Nat} (G : FnOk X.prog X.w X.K X.mg X.base CX0 k f fd ps sp) (pr : PromE bk X.K sp c) (hr : Room k X.A) (hg : Gl X x) (hm : X.mg x = some (.ref f)) (hk : PySem.W.keepIn X.K (.ref f) = true) (hb : KB X.K fd ps 0 ks idx) (hl : ks.length = m)
    (hkw : QK bk X kws fk) (hall : (backToKw pos (keywordEach kws X.env)).all (·.1.isSome) = true := by rfl) (hks : (backToKw pos (keywordEach kws X.env)).filterMap (·.1) = ks := by rfl)
    (hdb : (x == ("__debug__" : Str)) = false := by decide)
    (hpl : ((backTo pos (starEach [] X.env)).any (·.1) || (backToKw pos (keywordEach kws X.env)).any (·.1.isNone)) = false := by rfl) : QE bk X (.Call (.Name x p) [] kws pos) (pCl c (pPick idx (pApp 0 m pANil fk))) := by
  obtain ⟨tb, pb, wb⟩ := hkw.ex
  refine ⟨fun σ H Q => tb σ H fun zs H2 => zs.length = ks.length ∧ sp (pick idx ([] ++ zs)) H2 Q E0, ⟨fun pins s σ H Q I h => ?_⟩, fun E M ρ S σ H Q Q' R q p => ?_⟩
  · refine wpAny_Call_Name_kw (ld_glob I hg hm ?_ hdb)
    refine PySem.W.callWith_KW0 (h₀ := X.base) I.ok.mod.kin hk hall (thn (pb.run pos pins s σ H _ I h) fun ws s2 ⟨zs, H2, I2, rz, l2, q2⟩ => ⟨I2.kIn, ?_⟩) hpl
    rw [hks]
    exact run_kb (us := []) (vs := []) G hr hb I2 .nil rz rfl l2 q2
  · refine wb E M ρ S σ H _ _ R q fun M2 S2 H2 y w t2 s2 r2 q2 => ?_
    refine ⟨by rw [r2.length, hl]; exact q2.2.1, ?_⟩
    exact pr M2 S2 H2 _ _ Q Q' _ s2 (Rps.pick idx (Rps.append .nil r2)) q2.2.2 (p.after t2)
theorem q_callK {c : PCl} {n m : Nat} {idx : List Nat} (G : FnOk X.prog X.w X.K X.mg X.base CX0 k f fd ps sp) (pr : PromE bk X.K sp c) (hr : Room k X.A) (hg : Gl X x) (hm : X.mg x = some (.ref f)) (hk : PySem.W.keepIn X.K (.ref f) = true) (hb : KB X.K fd ps n ks idx) (hl : ks.length = m)
    (ha : QA bk X (e :: es) fa) (hkw : QK bk X kws fk) (hall : (backToKw pos (keywordEach kws X.env)).all (·.1.isSome) = true := by rfl) (hks : (backToKw pos (keywordEach kws X.env)).filterMap (·.1) = ks := by rfl)
    (hdb : (x == ("__debug__" : Str)) = false := by decide) (he : starEach (e :: es) X.env = (false, eval e X.env) :: starEach es X.env := by rfl)
    (hpl : ((backTo pos (starEach (e :: es) X.env)).any (·.1) || (backToKw pos (keywordEach kws X.env)).any (·.1.isNone)) = false := by rfl) :
    QE bk X (.Call (.Name x p) (e :: es) kws pos) (pCl c (pPick idx (pApp n m fa fk))) := by
  obtain ⟨ta, pa, wa⟩ := ha.ex
  obtain ⟨tb, pb, wb⟩ := hkw.ex
  refine ⟨fun σ H Q => ta σ H fun vs H1 => tb σ H1 fun zs H2 => vs.length = n ∧ zs.length = ks.length ∧ sp (pick idx (vs ++ zs)) H2 Q E0, ⟨fun pins s σ H Q I h => ?_⟩, fun E M ρ S σ H Q Q' R q p => ?_⟩
  · refine wpAny_Call_Name_kw (ld_glob I hg hm ?_ hdb)
    refine PySem.W.callWith_KW (h₀ := X.base) I.ok.mod.kin hk hall (thn (pa.run pos pins s σ H _ I h) fun us s1 ⟨vs, H1, I1, r, q⟩ => ?_) hpl he
    refine thn (pb.run pos pins s1 σ H1 _ I1 q) fun ws s2 ⟨zs, H2, I2, rz, l1, l2, q2⟩ => ⟨I2.kIn, ?_⟩
    rw [hks]
    exact run_kb G hr hb I2 r rz l1 l2 q2
  · refine wa E M ρ S σ H _ _ R q fun M1 S1 H1 x v t1 s1 r1 q1 => ?_
    refine wb E M1 ρ S1 σ H1 _ _ (R.step t1 s1) q1 fun M2 S2 H2 y w t2 s2 r2 q2 => ?_
    refine ⟨by rw [r1.length]; exact q2.1, by rw [r2.length, hl]; exact q2.2.1, ?_⟩
    exact pr M2 S2 H2 _ _ Q Q' _ s2 (Rps.pick idx (Rps.append (r1.step s1 t2) r2)) q2.2.2 (p.after (t1.trans t2))
end
end L2.P3
namespace L2.P3
open PySem PySem.Spec PyProof.Rows

/-! ### sizes -/
/-- a product that the model reckons -/
def MulOk (i j : Int) : Prop := IntMulOk i j
/-- a divisor that the model divides by -/
def DivOk (j : Int) : Prop := j ≠ 0 ∧ j.natAbs.log2 < 9000

theorem OpP.or {bk : BagKind} {K : PySem.W.Frag} {r r' : R2} {o o' : PO2} (h : OpP bk K r o) (h' : OpP bk K r' o') : OpP bk K (fun x y H Q => r x y H Q ∨ r' x y H Q) (fun x y S Q => o x y S Q ∨ o' x y S Q) := fun M S H x y v w Q Q' s r1 r2 q p => by
  rcases q with q | q
  · exact .inl (h M S H x y v w Q Q' s r1 r2 q p)
  · exact .inr (h' M S H x y v w Q Q' s r1 r2 q p)
theorem OpP.imp {bk : BagKind} {K : PySem.W.Frag} {r : R2} {o o' : PO2} (h : OpP bk K r o) (i : ∀ x y S Q, o' x y S Q → o x y S Q) : OpP bk K r o' := fun M S H x y v w Q Q' s r1 r2 q p => h M S H x y v w Q Q' s r1 r2 (i _ _ _ _ q) p

/-! ### + -/
def oAdd : PO2 := fun x y S Q => match x, y with
  | .int i, .int j => Q (.int (i + j)) S
  | .str a, .str b => a.length + b.length ≤ 16777216 ∧ Q (.str (a ++ b)) S
  | .tup a, .tup b => a.length + b.length ≤ 16777216 ∧ Q (.tup (a ++ b)) S
  | .lst a, .lst b => onO S[a]? fun xs => onO S[b]? fun ys => xs.length + ys.length ≤ 16777216 ∧ Q (.lst S.length) (S ++ [xs ++ ys])
  | .int i, .bl b => Q (.int (i + b2i b)) S
  | _, _ => False
instance : Mo2 oAdd := ⟨fun {x y _ _ _} h q => by
  unfold oAdd at q ⊢
  split at q <;> first | exact h _ _ q | exact ⟨q.1, h _ _ q.2⟩ | exact q.elim | exact onO_mo (fun _ q => onO_mo (fun _ q => ⟨q.1, h _ _ q.2⟩) q) q⟩
section
variable {X : Cx} {bk : BagKind} {K : PySem.W.Frag}
def rAdd (K : PySem.W.Frag) : R2 := fun x y H Q => rI0 (fun i j => .int (i + j)) x y H Q ∨ (∃ i j, x = .str i ∧ y = .str j ∧ i.length + j.length ≤ sizeLine ∧ Q (.str (i ++ j)) H) ∨ rCatA K x y H Q ∨ rCat x y H Q ∨ (∃ i k, x = .int i ∧ y = .bl k ∧ Q (.int (i + b2i k)) H)
theorem op_addX : OpR X (binaryOp .Add) (rAdd X.K) := op_add.or (op_add_str.or (op_catA.or (op_cat.or op_add_ib)))
theorem rps_nil_iff {M : Am} {H : Hp} {r : Nat} {xs : List PV} {vs : List V} (h : Rps K r M H xs vs) : vs = [] ↔ xs = [] := by
  have := h.length
  constructor
  · intro e; subst e; exact List.eq_nil_of_length_eq_zero (by simpa using this.symm)
  · intro e; subst e; exact List.eq_nil_of_length_eq_zero (by simpa using this)
theorem oAddP : OpP bk K (rAdd K) oAdd := fun M S H x y v w Q Q' s r1 r2 q p => by
  unfold oAdd at q
  split at q
  · rw [rp_int r1, rp_int r2]; exact .inl ⟨_, _, rfl, rfl, p M S H _ _ (.refl M H) s to_int q⟩
  · rw [rp_str r1, rp_str r2]; exact .inr (.inl ⟨_, _, rfl, rfl, by rw [szl]; exact q.1, p M S H _ _ (.refl M H) s to_str q.2⟩)
  · obtain ⟨a, xs, rfl, h1, s1⟩ := rp_tup r1
    obtain ⟨b, ys, rfl, h2, s2⟩ := rp_tup r2
    refine .inr (.inr (.inl ⟨a, b, xs, ys, rfl, rfl, h1, h2, by rw [s1.length, s2.length, szl]; exact q.1, fun e => ?_, fun _ e => ?_, fun _ _ => p.tup s (s1.append s2) q.2⟩))
    · have e' := (rps_nil_iff s1).mp e
      rw [e', List.nil_append] at q
      exact p M S H _ _ (.refl M H) s r2 q.2
    · have e' := (rps_nil_iff s2).mp e
      rw [e', List.append_nil] at q
      exact p M S H _ _ (.refl M H) s r1 q.2
  · obtain ⟨xs, e1, q⟩ := onO_ex q
    obtain ⟨ys, e2, hl, q⟩ := onO_ex q
    obtain ⟨a, ea, rfl⟩ := rp_lst r1
    obtain ⟨b, eb, rfl⟩ := rp_lst r2
    obtain ⟨a', vs, ea', h1, s1⟩ := s.st.at_ _ _ e1
    obtain ⟨b', ws, eb', h2, s2⟩ := s.st.at_ _ _ e2
    rw [ea] at ea'; obtain rfl := Option.some.inj ea'
    rw [eb] at eb'; obtain rfl := Option.some.inj eb'
    exact .inr (.inr (.inr (.inl ⟨a, b, vs, ws, rfl, rfl, h1, h2, by rw [s1.length, s2.length, szl]; exact hl, p.lst s (s1.append s2) q⟩)))
  · rw [rp_int r1, rp_bl r2]; exact .inr (.inr (.inr (.inr ⟨_, _, rfl, rfl, p M S H _ _ (.refl M H) s to_int q⟩)))
  · exact q.elim
end

/-! ### ints -/
def oI (C : Int → Int → Prop) (g : Int → Int → PV) : PO2 := fun x y S Q => match x, y with
  | .int i, .int j => C i j ∧ Q (g i j) S
  | _, _ => False
def oI0 (g : Int → Int → PV) : PO2 := fun x y S Q => match x, y with
  | .int i, .int j => Q (g i j) S
  | _, _ => False
instance {C g} : Mo2 (oI C g) := ⟨fun h q => by unfold oI at q ⊢; split at q <;> first | exact ⟨q.1, h _ _ q.2⟩ | exact q.elim⟩
instance {g} : Mo2 (oI0 g) := ⟨fun h q => by unfold oI0 at q ⊢; split at q <;> first | exact h _ _ q | exact q.elim⟩
def oSub := oI0 fun i j => .int (i - j)
def oMul : PO2 := fun x y S Q => match x, y with
  | .int i, .int j => MulOk i j ∧ Q (.int (i * j)) S
  | .tup xs, .int k => (xs ≠ [] ∧ 2 ≤ k ∧ k ≤ 1000 ∧ xs.length ≤ 1000) ∧ Q (.tup (List.replicate k.toNat xs).flatten) S
  | .lst a, .int k => onO S[a]? fun xs => (-(2 ^ 63) ≤ k ∧ k < 2 ^ 63 ∧ xs.length * k.toNat ≤ 16777216) ∧ Q (.lst S.length) (S ++ [(List.replicate k.toNat xs).flatten])
  | _, _ => False
instance : Mo2 oMul := ⟨fun h q => by
  unfold oMul at q ⊢
  split at q <;> first | exact ⟨q.1, h _ _ q.2⟩ | exact q.elim | exact onO_mo (fun _ q => ⟨q.1, h _ _ q.2⟩) q⟩
def oFdiv : PO2 := fun x y S Q => match x, y with
  | .int i, .int j => DivOk j ∧ Q (.int (i.fdiv j)) S
  | _, _ => False
def oMod : PO2 := fun x y S Q => match x, y with
  | .int i, .int j => j ≠ 0 ∧ Q (.int (i.fmod j)) S
  | _, _ => False
def oPow := oI CPow fun i j => .int (i ^ j.toNat)
def oShl := oI CPow fun i j => .int (i * 2 ^ j.toNat)
def oShr := oI (fun _ j => 0 ≤ j) fun i j => .int (i / 2 ^ j.toNat)
def oLt := oI0 fun i j => .bl (decide (i < j))
def oLe := oI0 fun i j => .bl (decide (i ≤ j))
def oGt := oI0 fun i j => .bl (decide (j < i))
def oGe := oI0 fun i j => .bl (decide (j ≤ i))
instance : Mo2 oSub := inferInstanceAs (Mo2 (oI0 _))
instance : Mo2 oFdiv := inferInstanceAs (Mo2 (oI _ _))
instance : Mo2 oMod := inferInstanceAs (Mo2 (oI _ _))
instance : Mo2 oPow := inferInstanceAs (Mo2 (oI _ _))
instance : Mo2 oShl := inferInstanceAs (Mo2 (oI _ _))
instance : Mo2 oShr := inferInstanceAs (Mo2 (oI _ _))
instance : Mo2 oLt := inferInstanceAs (Mo2 (oI0 _))
instance : Mo2 oLe := inferInstanceAs (Mo2 (oI0 _))
instance : Mo2 oGt := inferInstanceAs (Mo2 (oI0 _))
instance : Mo2 oGe := inferInstanceAs (Mo2 (oI0 _))
section
variable {X : Cx} {bk : BagKind} {K : PySem.W.Frag}
theorem oIP {C : Int → Int → Prop} {g : Int → Int → PV} {g' : Int → Int → V} (h : ∀ i j M H, Rp K bk.root M H (g i j) (g' i j)) : OpP bk K (rI C g') (oI C g) := fun M S H x y v w Q Q' s r1 r2 q p => by
  unfold oI at q
  split at q
  · rw [rp_int r1, rp_int r2]; exact ⟨_, _, rfl, rfl, q.1, p M S H _ _ (.refl M H) s (h _ _ M H) q.2⟩
  · exact q.elim
theorem oI0P {g : Int → Int → PV} {g' : Int → Int → V} (h : ∀ i j M H, Rp K bk.root M H (g i j) (g' i j)) : OpP bk K (rI0 g') (oI0 g) := fun M S H x y v w Q Q' s r1 r2 q p => by
  unfold oI0 at q
  split at q
  · rw [rp_int r1, rp_int r2]; exact ⟨_, _, rfl, rfl, p M S H _ _ (.refl M H) s (h _ _ M H) q⟩
  · exact q.elim
theorem op_mulX : OpR X (binaryOp .Mult) (rI MulOk fun i j => .int (i * j)) := opI fun _ _ _ _ _ _ _ hc q => mul_int q hc
theorem iop_mulX : OpR X (inplaceOp .Mult) (rI MulOk fun i j => .int (i * j)) := opI fun _ _ _ _ _ _ _ hc q => imul_int q hc
theorem op_fdivX : OpR X (binaryOp .FloorDiv) (rI (fun _ j => DivOk j) fun i j => .int (i.fdiv j)) := opI fun i j _ _ _ _ _ hc q => floordiv_int hc.1 q (.inl (PyProof.noPylong_of_log2 hc.2))
def rMul (K : PySem.W.Frag) : R2 := fun x y H Q => rI MulOk (fun i j => .int (i * j)) x y H Q ∨ rRepT K x y H Q ∨ rRep x y H Q
theorem op_mulA : OpR X (binaryOp .Mult) (rMul X.K) := op_mulX.or (op_repT.or op_rep)
theorem rps_rep {M : Am} {H : Hp} {r : Nat} {xs : List PV} {vs : List V} (h : Rps K r M H xs vs) : ∀ n : Nat, Rps K r M H (List.replicate n xs).flatten (List.replicate n vs).flatten
  | 0 => by simpa using Rps.nil
  | n + 1 => by
    simp only [List.replicate_succ, List.flatten_cons]
    exact h.append (rps_rep h n)
theorem oMulP : OpP bk K (rMul K) oMul := fun M S H x y v w Q Q' s r1 r2 q p => by
  unfold oMul at q
  split at q
  · rw [rp_int r1, rp_int r2]; exact .inl ⟨_, _, rfl, rfl, q.1, p M S H _ _ (.refl M H) s to_int q.2⟩
  · obtain ⟨a, vs, rfl, h1, s1⟩ := rp_tup r1
    rw [rp_int r2]
    exact .inr (.inl ⟨a, _, vs, rfl, rfl, h1, fun e => q.1.1 ((rps_nil_iff s1).mp e), q.1.2.1, q.1.2.2.1, by rw [s1.length]; exact q.1.2.2.2, p.tup s (rps_rep s1 _) q.2⟩)
  · obtain ⟨xs, e1, hl, q⟩ := onO_ex q
    obtain ⟨a, ea, rfl⟩ := rp_lst r1
    obtain ⟨a', vs, ea', h1, s1⟩ := s.st.at_ _ _ e1
    rw [ea] at ea'; obtain rfl := Option.some.inj ea'
    rw [rp_int r2]
    exact .inr (.inr ⟨a, _, vs, rfl, rfl, h1, hl.1, hl.2.1, by rw [s1.length, szl]; exact hl.2.2, p.lst s (rps_rep s1 _) q⟩)
  · exact q.elim
theorem oSubP : OpP bk K (rI0 fun i j => .int (i - j)) oSub := oI0P fun _ _ _ _ => to_int
theorem oFdivP : OpP bk K (rI (fun _ j => DivOk j) fun i j => .int (i.fdiv j)) oFdiv := oIP fun _ _ _ _ => to_int
theorem oModP : OpP bk K (rI (fun _ j => j ≠ 0) fun i j => .int (i.fmod j)) oMod := oIP fun _ _ _ _ => to_int
theorem oPowP : OpP bk K (rI CPow fun i j => .int (i ^ j.toNat)) oPow := oIP fun _ _ _ _ => to_int
theorem oShlP : OpP bk K (rI CPow fun i j => .int (i * 2 ^ j.toNat)) oShl := oIP fun _ _ _ _ => to_int
theorem oShrP : OpP bk K (rI (fun _ j => 0 ≤ j) fun i j => .int (i / 2 ^ j.toNat)) oShr := oIP fun _ _ _ _ => to_int
theorem oLtP : OpP bk K (rI0 fun i j => .bl (decide (i < j))) oLt := oI0P fun _ _ _ _ => to_bl
theorem oLeP : OpP bk K (rI0 fun i j => .bl (decide (i ≤ j))) oLe := oI0P fun _ _ _ _ => to_bl
theorem oGtP : OpP bk K (rI0 fun i j => .bl (decide (j < i))) oGt := oI0P fun _ _ _ _ => to_bl
theorem oGeP : OpP bk K (rI0 fun i j => .bl (decide (j ≤ i))) oGe := oI0P fun _ _ _ _ => to_bl
theorem iop_addX : OpR X (inplaceOp .Add) (rI0 fun i j => .int (i + j)) := iop_add
def oAddI := oI0 fun i j => .int (i + j)
instance : Mo2 oAddI := inferInstanceAs (Mo2 (oI0 _))
theorem oAddIP : OpP bk K (rI0 fun i j => .int (i + j)) oAddI := oI0P fun _ _ _ _ => to_int
def oMulI := oI MulOk fun i j => .int (i * j)
instance : Mo2 oMulI := inferInstanceAs (Mo2 (oI _ _))
theorem oMulIP : OpP bk K (rI MulOk fun i j => .int (i * j)) oMulI := oIP fun _ _ _ _ => to_int
/-- -x -/
def oNeg : PO1 := fun x S Q => match x with | .int i => Q (.int (-i)) S | _ => False
instance : Mo1 oNeg := ⟨fun h q => by unfold oNeg at q ⊢; split at q <;> first | exact h _ _ q | exact q.elim⟩
theorem oNegP : UnP bk K (rU fun i => .int (-i)) oNeg := fun M S H x v Q Q' s r q p => by
  unfold oNeg at q
  split at q
  · rw [rp_int r]; exact ⟨_, rfl, p M S H _ _ (.refl M H) s to_int q⟩
  · exact q.elim

/-! ### == -/
mutual
/-- == of values: none where the two are of kinds that it does not serve -/
def peq : PV → PV → Option Bool
  | .non, .non => some true
  | .non, .int _ => some false | .int _, .non => some false | .non, .bl _ => some false | .bl _, .non => some false | .non, .str _ => some false | .str _, .non => some false
  | .int i, .int j => some (decide (i = j))
  | .bl i, .bl j => some (decide (i = j))
  | .str i, .str j => some (decide (i = j))
  | .int _, .str _ => some false | .str _, .int _ => some false | .bl _, .str _ => some false | .str _, .bl _ => some false
  | _, _ => none
end
def oEq : PO2 := fun x y S Q => onO (peq x y) fun b => Q (.bl b) S
def oNe : PO2 := fun x y S Q => onO (peq x y) fun b => Q (.bl (!b)) S
instance : Mo2 oEq := ⟨fun h q => onO_mo (fun _ q => h _ _ q) q⟩
instance : Mo2 oNe := ⟨fun h q => onO_mo (fun _ q => h _ _ q) q⟩
def sv : PV → Option V
  | .non => some .non
  | .bl b => some (.bl b)
  | .int i => some (.int i)
  | .str x => some (.str x)
  | _ => none
theorem peq_scal {x y : PV} {b : Bool} (h : peq x y = some b) {M : Am} {H : Hp} {r : Nat} {v w : V} (r1 : Rp K r M H x v) (r2 : Rp K r M H y w) : scal v w = true ∧ decide (v = w) = b := by
  cases x <;> cases y <;> first
    | (simp [peq] at h; done)
    | (simp only [peq, Option.some.injEq] at h
       simp only [Rp] at r1 r2
       subst r1 r2
       subst h
       simp [scal])
theorem oEqP : OpP bk K rEq oEq := fun M S H x y v w Q Q' s r1 r2 q p => by
  obtain ⟨b, e, q⟩ := onO_ex q
  obtain ⟨h1, h2⟩ := peq_scal e r1 r2
  exact ⟨h1, p M S H _ _ (.refl M H) s (by rw [h2]; exact to_bl) q⟩
theorem oNeP : OpP bk K rNe oNe := fun M S H x y v w Q Q' s r1 r2 q p => by
  obtain ⟨b, e, q⟩ := onO_ex q
  obtain ⟨h1, h2⟩ := peq_scal e r1 r2
  exact ⟨h1, p M S H _ _ (.refl M H) s (by rw [h2]; exact to_bl) q⟩
/-- is None -/
def isNon : PV → Bool
  | .non => true
  | _ => false
theorem isNon_of {x : PV} {v : V} {M : Am} {H : Hp} {r : Nat} (h : Rp K r M H x v) : decide (v = .non) = isNon x := by
  cases x <;> simp only [Rp] at h
  case non => subst h; rfl
  case bl => subst h; rfl
  case int => subst h; rfl
  case str => subst h; rfl
  case tup => obtain ⟨a, vs, rfl, _⟩ := h; rfl
  case lst => obtain ⟨a, _, rfl⟩ := h; rfl
  case rol => obtain ⟨a, vs, rfl, _⟩ := h; rfl
  case bag => obtain ⟨o, a, _, _, rfl⟩ := h; rfl
def oIsN : PO2 := fun x y S Q => match y with | .non => Q (.bl (isNon x)) S | _ => False
def oNotN : PO2 := fun x y S Q => match y with | .non => Q (.bl (!isNon x)) S | _ => False
instance : Mo2 oIsN := ⟨fun h q => by unfold oIsN at q ⊢; split at q <;> first | exact h _ _ q | exact q.elim⟩
instance : Mo2 oNotN := ⟨fun h q => by unfold oNotN at q ⊢; split at q <;> first | exact h _ _ q | exact q.elim⟩
theorem oIsNP : OpP bk K (fun x y H Q => y = .non ∧ Q (.bl (decide (x = .non))) H) oIsN := fun M S H x y v w Q Q' s r1 r2 q p => by
  unfold oIsN at q
  split at q
  · exact ⟨rp_non r2, p M S H _ _ (.refl M H) s (by rw [isNon_of r1]; exact to_bl) q⟩
  · exact q.elim
theorem oNotNP : OpP bk K (fun x y H Q => y = .non ∧ Q (.bl (!decide (x = .non))) H) oNotN := fun M S H x y v w Q Q' s r1 r2 q p => by
  unfold oNotN at q
  split at q
  · exact ⟨rp_non r2, p M S H _ _ (.refl M H) s (by rw [isNon_of r1]; exact to_bl) q⟩
  · exact q.elim
end

/-! ### subscripts -/
def oIx : PO2 := fun x y S Q => match x, y with
  | .tup xs, .int i => onO (atI xs i) fun z => Q z S
  | .rol xs, .int i => onO (atI xs i) fun z => Q z S
  | .lst n, .int i => onO S[n]? fun xs => onO (atI xs i) fun z => Q z S
  | .str z, .int i => z.length ≤ 16777216 ∧ onO (atI z.cps.toList i) fun c => Q (.str ⟨#[c]⟩) S
  | _, _ => False
instance : Mo2 oIx := ⟨fun h q => by
  unfold oIx at q ⊢
  split at q
  · exact onO_mo (fun _ q => h _ _ q) q
  · exact onO_mo (fun _ q => h _ _ q) q
  · exact onO_mo (fun _ q => onO_mo (fun _ q => h _ _ q) q) q
  · exact ⟨q.1, onO_mo (fun _ q => h _ _ q) q.2⟩
  · exact q.elim⟩
section
variable {bk : BagKind} {K : PySem.W.Frag} {X : Cx}
theorem Rps.atI {M : Am} {H : Hp} {r : Nat} {xs : List PV} {vs : List V} {i : Int} {z : PV} (h : Rps K r M H xs vs) (e : atI xs i = some z) : ∃ v, L2.atI vs i = some v ∧ Rp K r M H z v := by
  unfold L2.atI at e ⊢
  rw [h.length]
  cases q : ixN xs.length i with
  | none => rw [q] at e; simp at e
  | some j =>
    rw [q] at e
    obtain ⟨v, e1, e2⟩ := h.get (i := j) (x := z) e
    exact ⟨v, e1, e2⟩
theorem oIxP : OpP bk K (rIx K) oIx := fun M S H x y v w Q Q' s r1 r2 q p => by
  unfold oIx at q
  split at q
  · obtain ⟨z, e, q⟩ := onO_ex q
    obtain ⟨a, vs, rfl, h1, s1⟩ := rp_tup r1
    obtain ⟨u, eu, ru⟩ := s1.atI e
    exact .inr (.inl ⟨a, vs, _, u, rfl, rp_int r2, h1, eu, p M S H _ _ (.refl M H) s ru q⟩)
  · obtain ⟨z, e, q⟩ := onO_ex q
    obtain ⟨a, vs, rfl, h1, s1⟩ := rp_rol r1
    obtain ⟨u, eu, ru⟩ := s1.atI e
    exact .inl ⟨a, vs, _, u, rfl, rp_int r2, h1.sq, eu, p M S H _ _ (.refl M H) s ru q⟩
  · obtain ⟨xs, e1, q⟩ := onO_ex q
    obtain ⟨z, e, q⟩ := onO_ex q
    obtain ⟨a, ea, rfl⟩ := rp_lst r1
    obtain ⟨a', vs, ea', h1, s1⟩ := s.st.at_ _ _ e1
    rw [ea] at ea'; obtain rfl := Option.some.inj ea'
    obtain ⟨u, eu, ru⟩ := s1.atI e
    exact .inl ⟨a, vs, _, u, rfl, rp_int r2, SqL.of h1, eu, p M S H _ _ (.refl M H) s ru q⟩
  · obtain ⟨l, q⟩ := q
    obtain ⟨c, e, q⟩ := onO_ex q
    exact .inr (.inr ⟨_, _, c, rp_str r1, rp_int r2, by rw [szl]; exact l, e, p M S H _ _ (.refl M H) s to_str q⟩)
  · exact q.elim
theorem q_ix {a b : Expr} {f g : PTE} {pos : Pos} (ha : QE bk X a f) (hb : QE bk X b g) (hs : PlainIx b) : QE bk X (.Subscript a b pos) (pOp oIx f g) := by
  obtain ⟨ta, pa, wa⟩ := ha.ex
  obtain ⟨tb, pb, wb⟩ := hb.ex
  refine ⟨_, pe_ix ix_seq pa pb hs, fun E M ρ S σ H Q Q' R q p => ?_⟩
  refine wa E M ρ S σ H _ _ R q fun M1 S1 H1 x v t1 s1 r1 q1 => ?_
  refine wb E M1 ρ S1 σ H1 _ _ (R.step t1 s1) q1 fun M2 S2 H2 y w t2 s2 r2 q2 => ?_
  exact oIxP M2 S2 H2 x y v w Q Q' s2 (r1.step s1 t2) r2 q2 (p.after (t1.trans t2))
/-- xs with x at the place i -/
def setI (xs : List PV) (i : Int) (x : PV) : Option (List PV) := (ixN xs.length i).map fun j => xs.set j x
/-- a[i] = v -/
def gIx (f g : PTE) : PTG := fun E x ρ S Q => f E ρ S fun o S1 => g E ρ S1 fun i S2 => match o, i with
  | .lst n, .int i => onO S2[n]? fun xs => onO (setI xs i x) fun ys => Q ρ (S2.set n ys)
  | _, _ => False
instance {f g : PTE} [MoE f] [MoE g] : MoG (gIx f g) := ⟨fun h q => MoE.mo (f := f) (fun _ _ q => MoE.mo (f := g) (fun _ _ q => by
  split at q
  · exact onO_mo (fun _ q => onO_mo (fun _ q => h _ _ q) q) q
  · exact q.elim) q) q⟩
theorem g_ix {a b : Expr} {f g : PTE} {pos : Pos} (hf : QE bk X a f) (hg : QE bk X b g)
    (hh : ∀ v, assign (.Subscript a b pos) X.env v = (do
      let ov ← holding [v] (eval a X.env)
      let iv ← holding [v, ov] (eval b X.env)
      standAt pos
      holding [v, ov, iv] (setItem ov iv v)
      release [v, ov, iv] []) := by intro _; rfl) : QG bk X (.Subscript a b pos) (gIx f g) := by
  obtain ⟨ta, pa, wa⟩ := hf.ex
  obtain ⟨tb, pb, wb⟩ := hg.ex
  refine ⟨_, pg_sub pa pb set_list hh, fun E M ρ S σ H x v Q Q' R r q p => ?_⟩
  refine wa E M ρ S σ H _ _ R q fun M1 S1 H1 o ov t1 s1 r1 q1 => ?_
  refine wb E M1 ρ S1 σ H1 _ _ (R.step t1 s1) q1 fun M2 S2 H2 y w t2 s2 r2 q2 => ?_
  cases o <;> cases y <;> first | exact q2.elim | skip
  rename_i n i
  obtain ⟨xs, e1, q2⟩ := onO_ex q2
  obtain ⟨ys, e2, q2⟩ := onO_ex q2
  unfold setI at e2
  obtain ⟨j, e3, rfl⟩ := Option.map_eq_some_iff.mp e2
  obtain ⟨l, el, rfl⟩ := rp_lst (r1.step s1 t2)
  obtain ⟨l', vs, el', h1, sl⟩ := s2.st.at_ _ _ e1
  rw [el] at el'; obtain rfl := Option.some.inj el'
  refine ⟨l, vs, i, j, rfl, rp_int r2, h1, by rw [sl.length]; exact e3, ?_⟩
  obtain ⟨t3, s3⟩ := s2.write el (sl.set j ((r.step R.sto t1).step s1 t2))
  have tt := t1.trans (t2.trans t3)
  exact p M2 ρ _ σ _ tt (R.step tt s3) q2
end

/-! ### slices -/
/-- the items of xs[lo:hi] -/
def cutP {α : Type} (xs : List α) (lo hi : Option Int) : List α := (xs.drop (HT.sIx xs.length 0 lo)).take (HT.sIx xs.length xs.length hi - HT.sIx xs.length 0 lo)
def pNoPart : PTO := fun _ _ S Q => Q none S
def pPart (f : PTE) : PTO := fun E ρ S Q => f E ρ S fun x S1 => match x with | .int i => Q (some i) S1 | _ => False
instance : MoO pNoPart := ⟨fun h q => h _ _ q⟩
instance {f : PTE} [MoE f] : MoO (pPart f) := ⟨fun h q => MoE.mo (f := f) (fun x _ q => by cases x <;> first | exact h _ _ q | exact q.elim) q⟩
def pSl (f : PTE) (lo hi : PTO) : PTE := fun E ρ S Q => f E ρ S fun x S1 => lo E ρ S1 fun l S2 => hi E ρ S2 fun u S3 => match x with
  | .tup xs => Q (.tup (cutP xs l u)) S3
  | .lst n => onO S3[n]? fun xs => Q (.lst S3.length) (S3 ++ [cutP xs l u])
  | .rol xs => Q (.lst S3.length) (S3 ++ [cutP xs l u])
  | .str z => z.length ≤ 16777216 ∧ Q (.str (cutS z l u)) S3
  | _ => False
instance {f : PTE} {lo hi : PTO} [MoE f] [MoO lo] [MoO hi] : MoE (pSl f lo hi) := ⟨fun h q => MoE.mo (f := f) (fun _ _ q => MoO.mo (f := lo) (fun _ _ q => MoO.mo (f := hi) (fun _ _ q => by
  split at q
  · exact h _ _ q
  · exact onO_mo (fun _ q => h _ _ q) q
  · exact h _ _ q
  · exact ⟨q.1, h _ _ q.2⟩
  · exact q.elim) q) q) q⟩
section
variable {bk : BagKind} {K : PySem.W.Frag} {X : Cx} {e : Expr} {f : PTE} {pos p2 : Pos}
theorem qo_none : QO bk X none pNoPart := ⟨_, po_none, fun E M ρ S σ H Q Q' R q p => p M S H _ (.refl M H) R.sto q⟩
theorem qo_some (h : QE bk X e f) : QO bk X (some e) (pPart f) := by
  obtain ⟨ta, pa, wa⟩ := h.ex
  refine ⟨_, po_some pa, fun E M ρ S σ H Q Q' R q p => ?_⟩
  refine wa E M ρ S σ H _ _ R q fun M1 S1 H1 x v t1 s1 r1 q1 => ?_
  cases x <;> first | exact q1.elim | exact ⟨_, rp_int r1, p M1 S1 H1 _ t1 s1 q1⟩
theorem Rps.drop {M : Am} {H : Hp} {r : Nat} : ∀ {xs : List PV} {vs : List V} (n : Nat), Rps K r M H xs vs → Rps K r M H (xs.drop n) (vs.drop n)
  | xs, vs, 0, h => by simpa using h
  | [], vs, n + 1, h => by rw [Rps] at h; subst h; simpa using Rps.nil
  | x :: xs, vs, n + 1, h => by
    rw [Rps] at h
    obtain ⟨v, ws, rfl, h1, h2⟩ := h
    simpa using Rps.drop n h2
theorem Rps.take {M : Am} {H : Hp} {r : Nat} : ∀ {xs : List PV} {vs : List V} (n : Nat), Rps K r M H xs vs → Rps K r M H (xs.take n) (vs.take n)
  | xs, vs, 0, h => by simpa using Rps.nil
  | [], vs, n + 1, h => by rw [Rps] at h; subst h; simpa using Rps.nil
  | x :: xs, vs, n + 1, h => by
    rw [Rps] at h
    obtain ⟨v, ws, rfl, h1, h2⟩ := h
    exact Rps.cons h1 (Rps.take n h2)
theorem Rps.cutV {M : Am} {H : Hp} {r : Nat} {xs : List PV} {vs : List V} (h : Rps K r M H xs vs) (lo hi : Option Int) : Rps K r M H (cutP xs lo hi) (L2.cutV vs lo hi) := by
  unfold cutP L2.cutV
  rw [h.length]
  exact (h.drop _).take _
theorem q_sl {lo hi : Option Expr} {fl fh : PTO} (he : QE bk X e f) (hl : QO bk X lo fl) (hu : QO bk X hi fh) : QE bk X (.Subscript e (.Slice lo hi none p2) pos) (pSl f fl fh) := by
  obtain ⟨ta, pa, wa⟩ := he.ex
  obtain ⟨tb, pb, wb⟩ := hl.ex
  obtain ⟨tc, pc, wc⟩ := hu.ex
  refine ⟨_, pe_slice (sl_tupA.or (sl_list.or sl_str)) pa pb pc, fun E M ρ S σ H Q Q' R q p => ?_⟩
  refine wa E M ρ S σ H _ _ R q fun M1 S1 H1 x v t1 s1 r1 q1 => ?_
  refine wb E M1 ρ S1 σ H1 _ _ (R.step t1 s1) q1 fun M2 S2 H2 l t2 s2 q2 => ?_
  refine wc E M2 ρ S2 σ H2 _ _ (R.step (t1.trans t2) s2) q2 fun M3 S3 H3 u t3 s3 q3 => ?_
  have p3 := p.after (t1.trans (t2.trans t3))
  have r3 := (r1.step s1 t2).step s2 t3
  cases x <;> first | exact q3.elim | skip
  · exact .inr (.inr ⟨_, rp_str r3, by rw [szl]; exact q3.1, p3 M3 S3 H3 _ _ (.refl M3 H3) s3 to_str q3.2⟩)
  · rename_i xs
    obtain ⟨a, vs, rfl, h1, sv⟩ := rp_tup r3
    refine .inl ⟨a, vs, rfl, h1, fun hw => ?_, fun _ => p3.tup s3 (sv.cutV l u) q3⟩
    have e : L2.cutV vs l u = vs := by
      unfold L2.cutV
      rw [hw.1, hw.2]; simp
    have e2 := sv.cutV l u
    rw [e] at e2
    exact p3 M3 S3 H3 _ _ (.refl M3 H3) s3 (to_tup h1 e2) q3
  · rename_i n
    obtain ⟨xs, e1, q3⟩ := onO_ex q3
    obtain ⟨a, ea, rfl⟩ := rp_lst r3
    obtain ⟨a', vs, ea', h1, sv⟩ := s3.st.at_ _ _ e1
    rw [ea] at ea'; obtain rfl := Option.some.inj ea'
    exact .inr (.inl ⟨a, vs, rfl, SqL.of h1, p3.lst s3 (sv.cutV l u) q3⟩)
  · rename_i xs
    obtain ⟨a, vs, rfl, h1, sv⟩ := rp_rol r3
    exact .inr (.inl ⟨a, vs, rfl, h1.sq, p3.lst s3 (sv.cutV l u) q3⟩)
end
end L2.P3
namespace L2.P3
open PySem PySem.Spec PyProof.Rows

/-! ### truth, chains, a, b = x, y -/
def pTruth (f : PTE) : PTT := fun E ρ S Q => f E ρ S fun x S1 => match x with
  | .non => Q false S1
  | .bl b => Q b S1
  | .int i => Q (i != 0) S1
  | .str z => z.length ≤ 16777216 ∧ Q ((z.length : Int) != 0) S1
  | .tup xs => Q (!xs.isEmpty) S1
  | .lst n => onO S1[n]? fun xs => Q (!xs.isEmpty) S1
  | .rol xs => Q (!xs.isEmpty) S1
  | .bag => False
instance {f : PTE} [MoE f] : MoT (pTruth f) := ⟨fun h q => MoE.mo (f := f) (fun x _ q => by
  cases x <;> first | exact q.elim | exact h _ _ q | exact ⟨q.1, h _ _ q.2⟩ | exact onO_mo (fun _ q => h _ _ q) q) q⟩
def pChain (o o' : PO2) (f g h : PTE) : PTE := fun E ρ S Q => f E ρ S fun x S1 => g E ρ S1 fun y S2 => o x y S2 fun z S3 => match z with
  | .bl k => Br k (h E ρ S3 fun w S4 => o' y w S4 Q) (Q (.bl false) S3)
  | _ => False
instance {o o' : PO2} {f g h : PTE} [Mo2 o] [Mo2 o'] [MoE f] [MoE g] [MoE h] : MoE (pChain o o' f g h) := ⟨fun k q => MoE.mo (f := f) (fun _ _ q => MoE.mo (f := g) (fun _ _ q => Mo2.mo (o := o) (fun z _ q => by
  cases z <;> first | exact q.elim | skip
  rename_i b
  cases b
  · exact k _ _ q
  · exact MoE.mo (f := h) (fun _ _ q => Mo2.mo (o := o') k q) q) q) q) q⟩
def pPar (i j : Nat) (f g : PTE) : PTS := fun E D ρ S => f E ρ S fun x S1 => g E ρ S1 fun y S2 => D.nx ((ρ.set i (some x)).set j (some y)) S2
instance {i j : Nat} {f g : PTE} [MoE f] [MoE g] : MoS (pPar i j f g) := ⟨fun h q => MoE.mo (f := f) (fun _ _ q => MoE.mo (f := g) (fun _ _ q => h.nx _ _ q) q) q⟩
section
variable {bk : BagKind} {X : Cx} {a b c e : Expr} {f g h : PTE} {pos : Pos}
theorem isEmpty_rps {K : PySem.W.Frag} {M : Am} {H : Hp} {r : Nat} {xs : List PV} {vs : List V} (h : Rps K r M H xs vs) : vs.isEmpty = xs.isEmpty := by
  have := h.length
  cases xs <;> cases vs <;> first | rfl | simp at this
theorem qt_truth (ha : QE bk X a f) (he : ∀ whole, isTrue a X.env whole = (do let v ← whole; standAt a.pos; holding [v] (truthy v)) := by intro _; rfl) : QT bk X a (pTruth f) := by
  obtain ⟨ta, pa, wa⟩ := ha.ex
  refine ⟨_, pt_truth pa he, fun E M ρ S σ H Q Q' R q p => ?_⟩
  refine wa E M ρ S σ H _ _ R q fun M1 S1 H1 x v t1 s1 r1 q1 => ?_
  cases x
  · rw [rp_non r1]; exact ⟨_, rfl, p M1 S1 H1 _ t1 s1 q1⟩
  · rw [rp_bl r1]; exact ⟨_, rfl, p M1 S1 H1 _ t1 s1 q1⟩
  · rw [rp_int r1]; exact ⟨_, rfl, p M1 S1 H1 _ t1 s1 q1⟩
  · rw [rp_str r1]; exact ⟨_, ⟨by rw [szl]; exact q1.1, rfl⟩, p M1 S1 H1 _ t1 s1 q1.2⟩
  · obtain ⟨a, vs, rfl, h1, sv⟩ := rp_tup r1
    exact ⟨_, .inr (.inl ⟨vs, h1, rfl⟩), p M1 S1 H1 _ t1 s1 (by rw [isEmpty_rps sv]; exact q1)⟩
  · obtain ⟨xs, e1, q1⟩ := onO_ex q1
    obtain ⟨a, ea, rfl⟩ := rp_lst r1
    obtain ⟨a', vs, ea', h1, sv⟩ := s1.st.at_ _ _ e1
    rw [ea] at ea'; obtain rfl := Option.some.inj ea'
    exact ⟨_, .inl ⟨vs, SqL.of h1, rfl⟩, p M1 S1 H1 _ t1 s1 (by rw [isEmpty_rps sv]; exact q1)⟩
  · obtain ⟨a, vs, rfl, h1, sv⟩ := rp_rol r1
    exact ⟨_, .inl ⟨vs, h1.sq, rfl⟩, p M1 S1 H1 _ t1 s1 (by rw [isEmpty_rps sv]; exact q1)⟩
  · exact q1.elim
theorem q_chain {op op' : CmpOp} {r r' : R2} {o o' : PO2} (ho : OpR X (compareOp op) r) (hp : OpP bk X.K r o) (ho' : OpR X (compareOp op') r') (hp' : OpP bk X.K r' o') (ha : QE bk X a f) (hb : QE bk X b g) (hc : QE bk X c h)
    (hm : lastMarks [op, op'] [b, c] = false := by with_unfolding_all rfl) : QE bk X (.Compare a [op, op'] [b, c] pos) (pChain o o' f g h) := by
  obtain ⟨ta, pa, wa⟩ := ha.ex
  obtain ⟨tb, pb, wb⟩ := hb.ex
  obtain ⟨tc, pc, wc⟩ := hc.ex
  refine ⟨_, pe_chain ho ho' pa pb pc hm, fun E M ρ S σ H Q Q' R q p => ?_⟩
  refine wa E M ρ S σ H _ _ R q fun M1 S1 H1 x v t1 s1 r1 q1 => ?_
  refine wb E M1 ρ S1 σ H1 _ _ (R.step t1 s1) q1 fun M2 S2 H2 y w t2 s2 r2 q2 => ?_
  refine hp M2 S2 H2 x y v w _ _ s2 (r1.step s1 t2) r2 q2 fun M3 S3 H3 z u t3 s3 r3 q3 => ?_
  cases z <;> first | exact q3.elim | skip
  rename_i k
  refine ⟨k, rp_bl r3, ?_⟩
  have t13 := t1.trans (t2.trans t3)
  cases k with
  | true =>
    rw [if_pos rfl]
    refine wc E M3 ρ S3 σ H3 _ _ (R.step t13 s3) q3 fun M4 S4 H4 y4 w4 t4 s4 r4 q4 => ?_
    exact hp' M4 S4 H4 y y4 w w4 Q Q' s4 ((r2.step s2 t3).step s3 t4) r4 q4 (p.after (t13.trans t4))
  | false =>
    rw [if_neg Bool.false_ne_true]
    exact p M3 S3 H3 _ _ t13 s3 to_bl q3
theorem qt_chain {op op' : CmpOp} {r r' : R2} {o o' : PO2} (ho : OpR X (compareOp op) r) (hp : OpP bk X.K r o) (ho' : OpR X (compareOp op') r') (hp' : OpP bk X.K r' o') (ha : QE bk X a f) (hb : QE bk X b g) (hc : QE bk X c h)
    (hm : lastMarks [op, op'] [b, c] = false := by with_unfolding_all rfl) : QT bk X (.Compare a [op, op'] [b, c] pos) (pTB (pChain o o' f g h)) := by
  obtain ⟨ta, pa, wa⟩ := ha.ex
  obtain ⟨tb, pb, wb⟩ := hb.ex
  obtain ⟨tc, pc, wc⟩ := hc.ex
  refine ⟨_, pt_chain ho ho' pa pb pc hm, fun E M ρ S σ H Q Q' R q p => ?_⟩
  refine wa E M ρ S σ H _ _ R q fun M1 S1 H1 x v t1 s1 r1 q1 => ?_
  refine wb E M1 ρ S1 σ H1 _ _ (R.step t1 s1) q1 fun M2 S2 H2 y w t2 s2 r2 q2 => ?_
  refine hp M2 S2 H2 x y v w _ _ s2 (r1.step s1 t2) r2 q2 fun M3 S3 H3 z u t3 s3 r3 q3 => ?_
  cases z <;> first | exact q3.elim | skip
  rename_i k
  refine ⟨k, rp_bl r3, ?_⟩
  have t13 := t1.trans (t2.trans t3)
  cases k with
  | true =>
    rw [if_pos rfl]
    refine wc E M3 ρ S3 σ H3 _ _ (R.step t13 s3) q3 fun M4 S4 H4 y4 w4 t4 s4 r4 q4 => ?_
    refine hp' M4 S4 H4 y y4 w w4 _ _ s4 ((r2.step s2 t3).step s3 t4) r4 q4 fun M5 S5 H5 z5 u5 t5 s5 r5 q5 => ?_
    cases z5 <;> first | exact q5.elim | exact ⟨_, rp_bl r5, p M5 S5 H5 _ (t13.trans (t4.trans t5)) s5 q5⟩
  | false =>
    rw [if_neg Bool.false_ne_true]
    exact ⟨_, rfl, p M3 S3 H3 _ t13 s3 q3⟩
theorem q_par {i j : Nat} {x y : Str} {px py pt : Pos} {kt k2 pt2} (hc : X.calm = true) (hN : X.N.Nodup) (hi : X.N[i]? = some x) (hj : X.N[j]? = some y) (hij : i ≠ j)
    (hx : X.env.scope.names.lookup x = some .local) (hy : X.env.scope.names.lookup y = some .local) (ha : QE bk X a f) (hb : QE bk X b g)
    (hw : swappedStores [.Tuple [.Name x px, .Name y py] kt pt] (.Tuple [a, b] k2 pt2) X.env = pure (some [x, y]))
    (hs : swapsWithSole [.Tuple [.Name x px, .Name y py] kt pt] (.Tuple [a, b] k2 pt2) pos.line X.env = pure false := by rfl)
    (he : starEach [a, b] X.env = (false, eval a X.env) :: starEach [b] X.env := by rfl) (he2 : starEach (b :: []) X.env = (false, eval b X.env) :: starEach [] X.env := by rfl) :
    QS bk X (.Assign [.Tuple [.Name x px, .Name y py] kt pt] (.Tuple [a, b] k2 pt2) pos) (pPar i j f g) := by
  obtain ⟨ta, pa, wa⟩ := ha.ex
  obtain ⟨tb, pb, wb⟩ := hb.ex
  refine ⟨_, ps_par hc hN hi hj hij hx hy (pa_cons pa (pa_cons pb pa_nil he2) he) hw hs, fun E M ρ S σ H D D' R q p => ?_⟩
  refine wa E M ρ S σ H _ _ R q fun M1 S1 H1 x v t1 s1 r1 q1 => ?_
  refine wb E M1 ρ S1 σ H1 _ _ (R.step t1 s1) q1 fun M2 S2 H2 y w t2 s2 r2 q2 => ?_
  exact ⟨v, w, rfl, p.nx M2 _ S2 _ H2 (t1.trans t2) (((R.step (t1.trans t2) s2).set i (r1.step s1 t2)).set j r2) q2⟩
end

/-! ### list comprehensions -/
def wipeP (ρ : PEnv) : List Nat → PEnv
  | [] => ρ
  | v :: vs => (wipeP ρ vs).set v none
def pLcL (chk : Store → Prop) (g : PTG) (tt : PTT) (te : PTE) (E : XW) (ρ0 : PEnv) (n : Nat) (Q : PQ) : List PV → Store → Prop
  | [], S => chk S ∧ Q (.lst n) S
  | x :: xs, S => chk S ∧ g E x ρ0 S fun ρ1 S1 => tt E ρ1 S1 fun b S2 =>
    Br b (te E ρ1 S2 fun y S3 => onO S3[n]? fun acc => acc.length < 16777216 ∧ pLcL chk g tt te E ρ0 n Q xs (S3.set n (acc ++ [y]))) (pLcL chk g tt te E ρ0 n Q xs S2)
def pLc (i : PTI) (g : PTG) (tt : PTT) (te : PTE) (ws : List Nat) : PTE := fun E ρ S Q => i E ρ S fun it S1 => pLcL it.chk g tt te E (wipeP ρ ws) S1.length Q it.items (S1 ++ [[]])
def pYes : PTT := fun _ _ S Q => Q true S
instance : MoT pYes := ⟨fun h q => h _ _ q⟩
theorem pLcL_mo {chk : Store → Prop} {g : PTG} {tt : PTT} {te : PTE} [MoG g] [MoT tt] [MoE te] {E : XW} {ρ0 : PEnv} {n : Nat} {Q Q' : PQ} (h : ∀ x S, Q x S → Q' x S) : ∀ {xs : List PV} {S : Store}, pLcL chk g tt te E ρ0 n Q xs S → pLcL chk g tt te E ρ0 n Q' xs S
  | [], S, q => ⟨q.1, h _ _ q.2⟩
  | x :: xs, S, q => by
    unfold pLcL at q ⊢
    refine ⟨q.1, MoG.mo (g := g) (fun _ _ q => MoT.mo (f := tt) (fun b _ q => ?_) q) q.2⟩
    cases b with
    | false =>
      exact pLcL_mo h q
    | true =>
      exact MoE.mo (f := te) (fun _ _ q => onO_mo (fun _ q => ⟨q.1, pLcL_mo h q.2⟩) q) q
instance {i : PTI} {g : PTG} {tt : PTT} {te : PTE} {ws : List Nat} [MoI i] [MoG g] [MoT tt] [MoE te] : MoE (pLc i g tt te ws) := ⟨fun h q => MoI.mo (f := i) (fun _ _ q => pLcL_mo h q) q⟩
section
variable {bk : BagKind} {K : PySem.W.Frag}
theorem wipe_get {α : Type} {i : Nat} {x : α} : ∀ {vs : List Nat} {σ : List (Option α)} {w : List Nat → List (Option α)}, (w = fun vs => vs.foldr (fun v r => r.set v none) σ) → (w vs)[i]? = some (some x) → σ[i]? = some (some x) ∧ i ∉ vs
  | [], σ, w, e, h => by subst e; exact ⟨h, by simp⟩
  | v :: vs, σ, w, e, h => by
    subst e
    simp only [List.foldr_cons] at h
    by_cases hi : v = i
    · subst hi
      by_cases hv : v < (vs.foldr (fun v r => r.set v none) σ).length
      · rw [List.getElem?_set_self hv] at h; cases h
      · rw [List.getElem?_eq_none (by simpa using hv)] at h; cases h
    · rw [List.getElem?_set_ne hi] at h
      obtain ⟨h1, h2⟩ := wipe_get (vs := vs) (σ := σ) rfl h
      exact ⟨h1, by simp only [List.mem_cons, not_or]; exact ⟨fun e => hi e.symm, h2⟩⟩
theorem wipeP_eq (ρ : PEnv) : ∀ vs, wipeP ρ vs = vs.foldr (fun v r => r.set v none) ρ
  | [] => rfl
  | v :: vs => by rw [wipeP, wipeP_eq ρ vs]; rfl
theorem wipeP_length (ρ : PEnv) : ∀ vs, (wipeP ρ vs).length = ρ.length
  | [] => rfl
  | v :: vs => by rw [wipeP, List.length_set, wipeP_length ρ vs]
theorem wipe_keep {σ : St} {i : Nat} : ∀ {vs : List Nat}, i ∉ vs → (wipe σ vs)[i]? = σ[i]?
  | [], _ => rfl
  | v :: vs, h => by
    simp only [List.mem_cons, not_or] at h
    rw [wipe, List.getElem?_set_ne (fun e => h.1 e.symm)]
    exact wipe_keep h.2
theorem Rel.wipe {M : Am} {ρ : PEnv} {S : Store} {σ : St} {H : Hp} (R : Rel K bk M ρ S σ H) (vs : List Nat) : Rel K bk M (wipeP ρ vs) S (L2.wipe σ vs) H := by
  refine ⟨by rw [wipeP_length, wipe_length, R.len], fun i x e => ?_, R.sto⟩
  rw [wipeP_eq] at e
  obtain ⟨h1, h2⟩ := wipe_get (w := fun vs => vs.foldr (fun v r => r.set v none) ρ) rfl e
  obtain ⟨v, e1, r⟩ := R.slots i x h1
  exact ⟨v, by rw [wipe_keep h2]; exact e1, r⟩
/-- a target that stores in the block's own slots alone -/
structure QGw (bk : BagKind) (X : Cx) (e : Expr) (g : PTG) (ws : List Nat) : Prop where
  ex : ∃ t, PG X e t ∧ ∀ (E : XW) M ρ S σ0 H x v (Q : PEnv → Store → Prop) (Q' : St → Hp → Prop), Rel X.K bk M ρ S (wipe σ0 ws) H → Rp X.K bk.root M H x v → g E x ρ S Q →
    (∀ M' ρ' S' σ' H', wipe σ' ws = wipe σ0 ws → Step M H M' H' → Rel X.K bk M' ρ' S' σ' H' → Q ρ' S' → Q' σ' H') → t v (wipe σ0 ws) H Q'
end
section
variable {bk : BagKind} {X : Cx}
theorem wipe_idem {σ : St} {v : Nat} {x : Option V} : ∀ {vs : List Nat}, v ∈ vs → wipe (σ.set v x) vs = wipe σ vs
  | w :: vs, h => by
    rw [wipe, wipe]
    by_cases hv : v ∈ vs
    · rw [wipe_idem hv]
    · have e : w = v := by
        rcases List.mem_cons.mp h with h | h
        · exact h.symm
        · exact absurd h hv
      subst e
      apply List.ext_getElem?
      intro j
      by_cases hj : w = j
      · subst hj
        have h1 : ∀ σ' : St, ((wipe σ' vs).set w none)[w]? = if w < σ'.length then some none else none := fun σ' => by
          by_cases hl : w < σ'.length
          · rw [List.getElem?_set_self (by rw [wipe_length]; exact hl), if_pos hl]
          · rw [if_neg hl, List.getElem?_eq_none (by rw [List.length_set, wipe_length]; omega)]
        rw [h1, h1, List.length_set]
      · rw [List.getElem?_set_ne hj, List.getElem?_set_ne hj]
        by_cases hjv : j ∈ vs
        · -- both are wiped there
          have h2 : ∀ σ' : St, ∀ us : List Nat, j ∈ us → (wipe σ' us)[j]? = if j < σ'.length then some none else none := fun σ' us => by
            induction us with
            | nil => intro h; simp at h
            | cons u us ih =>
              intro h
              rw [wipe]
              by_cases hu : u = j
              · subst hu
                by_cases hl : u < σ'.length
                · rw [List.getElem?_set_self (by rw [wipe_length]; exact hl), if_pos hl]
                · rw [if_neg hl, List.getElem?_eq_none (by rw [List.length_set, wipe_length]; omega)]
              · rw [List.getElem?_set_ne hu]
                exact ih (by rcases List.mem_cons.mp h with h | h; exact absurd h.symm hu; exact h)
          rw [h2 _ _ hjv, h2 _ _ hjv, List.length_set]
        · rw [wipe_keep hjv, wipe_keep hjv, List.getElem?_set_ne hj]
theorem wipe_wipe {σ : St} : ∀ {vs : List Nat}, wipe (wipe σ vs) vs = wipe σ vs := by
  intro vs
  have : ∀ us : List Nat, (∀ u ∈ us, u ∈ vs) → wipe (wipe σ us) vs = wipe σ vs := by
    intro us
    induction us with
    | nil => intro _; rfl
    | cons u us ih =>
      intro h
      show wipe ((wipe σ us).set u none) vs = _
      rw [wipe_idem (h u List.mem_cons_self)]
      exact ih fun w hw => h w (List.mem_cons_of_mem _ hw)
  exact this vs fun _ h => h
theorem gw_name {i : Nat} {x : Str} {pos : Pos} {ws : List Nat} (hm : i ∈ ws) (hN : X.N.Nodup) (hi : X.N[i]? = some x) (hx : Loc X.env.scope x) (hf : X.fn x = true ∨ X.env.scope.names.lookup x = some .local := by first | exact .inl rfl | exact .inr rfl | assumption) : QGw bk X (.Name x pos) (gN i) ws :=
  ⟨_, pg_name hN hi hx hf, fun E M ρ S σ0 H x v Q Q' R r q p => p M _ S _ H (by rw [wipe_idem hm, wipe_wipe]) (.refl M H) (R.set i r) q⟩
structure QGsw (bk : BagKind) (X : Cx) (es : List Expr) (g : PTGs) (ws : List Nat) : Prop where
  ex : ∃ t, PGs X es t ∧ ∀ (E : XW) M ρ S σ0 σ H x v (Q : PEnv → Store → Prop) (Q' : St → Hp → Prop), wipe σ ws = wipe σ0 ws → Rel X.K bk M ρ S σ H → Rps X.K bk.root M H x v → g E x ρ S Q →
    (∀ M' ρ' S' σ' H', wipe σ' ws = wipe σ0 ws → Step M H M' H' → Rel X.K bk M' ρ' S' σ' H' → Q ρ' S' → Q' σ' H') → t v σ H Q'
theorem gsw_nil {ws : List Nat} : QGsw bk X [] gsNil ws := by
  refine ⟨_, pgs_nil, fun E M ρ S σ0 σ H x v Q Q' hw R r q p => ?_⟩
  cases x with
  | nil => rw [Rps] at r; exact ⟨r, p M ρ S σ H hw (.refl M H) R q⟩
  | cons _ _ => exact q.elim
theorem gsw_cons {x : Str} {pos : Pos} {i : Nat} {es : List Expr} {u : PTGs} {ws : List Nat} (hm : i ∈ ws) (hN : X.N.Nodup) (hi : X.N[i]? = some x) (hx : Loc X.env.scope x) (h2 : QGsw bk X es u ws)
    (hf : X.fn x = true ∨ X.env.scope.names.lookup x = some .local := by first | exact .inl rfl | exact .inr rfl | assumption)
    (hs : (assignEach (.Name x pos :: es) X.env).map (·.2) = assign (.Name x pos) X.env :: (assignEach es X.env).map (·.2) := by rfl) : QGsw bk X (.Name x pos :: es) (gsCons (gN i) u) ws := by
  obtain ⟨tb, pb, wb⟩ := h2.ex
  refine ⟨_, pgs_cons (pg_name hN hi hx hf) pb hs, fun E M ρ S σ0 σ H x v Q Q' hw R r q p => ?_⟩
  cases x with
  | nil => exact q.elim
  | cons y ys =>
    rw [Rps] at r
    obtain ⟨w, vs, rfl, r1, r2⟩ := r
    exact ⟨w, vs, rfl, wb E M _ S σ0 _ H ys vs _ _ (by rw [wipe_idem hm]; exact hw) (R.set i r1) r2 q fun M' ρ' S' σ' H' hw' t' R' q' => p M' ρ' S' σ' H' hw' t' R' q'⟩
theorem gw_tup {es : List Expr} {k : Nat} {t : PTGs} {n : Nat} {pos : Pos} {ws : List Nat} (hc : X.calm = true) (h : QGsw bk X es t ws)
    (hn : (assignEach es X.env).length = n := by rfl) (hst : (assignEach es X.env).findIdx? (·.1) = none := by rfl) : QGw bk X (.Tuple es k pos) (gT n t) ws := by
  obtain ⟨ta, pa, wa⟩ := h.ex
  refine ⟨_, pg_tup hc pa hn hst, fun E M ρ S σ0 H x v Q Q' R r q p => ?_⟩
  cases x <;> first | exact q.elim | skip
  rename_i xs
  obtain ⟨a, vs, e, s, r⟩ := rp_tup r
  exact ⟨a, vs, e, s, r.length.trans q.1, wa E M ρ S σ0 _ H xs vs _ _ wipe_wipe R r q.2 p⟩
structure QTs (bk : BagKind) (X : Cx) (ifs : List Expr) (f : PTT) : Prop where
  ex : ∃ t, PTs X ifs t ∧ ∀ (E : XW) M ρ S σ H Q Q', Rel X.K bk M ρ S σ H → f E ρ S Q → PostT bk X.K M H Q Q' → t σ H Q'
theorem qts_nil : QTs bk X [] pYes := ⟨_, pts_nil, fun E M ρ S σ H Q Q' R q p => p M S H _ (.refl M H) R.sto q⟩
theorem qts_one {c : Expr} {f : PTT} (h : QT bk X c f) : QTs bk X [c] f := by
  obtain ⟨t, p, w⟩ := h.ex
  exact ⟨t, pts_one p, w⟩
/-- the reading of a comprehension follows its plain semantics -/
theorem lc_sound {wi : TI} {g : TG} {tt : TT} {te : TE} {ws : List Nat} {i : PTI} {pg : PTG} {pt : PTT} {pe : PTE}
    (hi : ∀ (E : XW) M ρ S σ H R R', Rel X.K bk M ρ S σ H → i E ρ S R → (∀ M' S' H' it J, Step M H M' H' → Sto X.K bk M' S' H' → ItOk bk X.K it J M' H' → R it S' → R' J H') → wi σ H R')
    (hg : ∀ (E : XW) M ρ S σ0 H x v (Q : PEnv → Store → Prop) (Q' : St → Hp → Prop), Rel X.K bk M ρ S (wipe σ0 ws) H → Rp X.K bk.root M H x v → pg E x ρ S Q →
      (∀ M' ρ' S' σ' H', wipe σ' ws = wipe σ0 ws → Step M H M' H' → Rel X.K bk M' ρ' S' σ' H' → Q ρ' S' → Q' σ' H') → g v (wipe σ0 ws) H Q')
    (ht : ∀ (E : XW) M ρ S σ H Q Q', Rel X.K bk M ρ S σ H → pt E ρ S Q → PostT bk X.K M H Q Q' → tt σ H Q')
    (he : ∀ (E : XW) M ρ S σ H Q Q', Rel X.K bk M ρ S σ H → pe E ρ S Q → Post bk X.K M H Q Q' → te σ H Q')
    (E : XW) (M : Am) (ρ : PEnv) (S : Store) (σ : St) (H : Hp) (Q : PQ) (Q' : VK) (R : Rel X.K bk M ρ S σ H) (q : pLc i pg pt pe ws E ρ S Q) (p : Post bk X.K M H Q Q') : tLc wi g tt te ws σ H Q' := by
  refine hi E M ρ S σ H _ _ R q fun M1 S1 H1 it J t1 s1 ok q1 => ?_
  intro D hD
  have s2 : Sto X.K bk ⟨M1.m ++ [D], M1.bag⟩ (S1 ++ [[]]) (upd H1 D (.lst [])) := s1.push hD .nil
  have t2 : Step M1 H1 ⟨M1.m ++ [D], M1.bag⟩ (upd H1 D (.lst [])) := Step.push hD
  have eD : ∀ {M3 : Am} {H3 : Hp}, Step ⟨M1.m ++ [D], M1.bag⟩ (upd H1 D (.lst [])) M3 H3 → M3.m[S1.length]? = some D := fun {M3 H3} t => by
    obtain ⟨l, e⟩ := t.pre
    rw [e, ← s1.st.len]; simp
  refine ⟨fun k j H2 => j = it.items.length - k ∧ k ≤ it.items.length ∧ ∃ M2 S2, Step ⟨M1.m ++ [D], M1.bag⟩ (upd H1 D (.lst [])) M2 H2 ∧ Sto X.K bk M2 S2 H2 ∧ pLcL it.chk pg pt pe E (wipeP ρ ws) S1.length Q (it.items.drop k) S2,
    ⟨_, rfl, Nat.zero_le _, _, _, .refl _ _, s2, q1⟩, ?_⟩
  rintro k j H2 ⟨rfl, hk, M2, S2, t3, s3, q2⟩
  have t13 := t1.trans (t2.trans t3)
  by_cases hlt : k < it.items.length
  · rw [List.drop_eq_getElem_cons hlt] at q2
    unfold pLcL at q2
    obtain ⟨hck, q2⟩ := q2
    obtain ⟨hgo, hy⟩ := (ok M2 S2 H2 k (t2.trans t3) s3 hck).1 it.items[k] (by simp [hlt])
    refine .inr ⟨hgo, fun H' => ∃ M3 S3, Step ⟨M1.m ++ [D], M1.bag⟩ (upd H1 D (.lst [])) M3 H' ∧ Sto X.K bk M3 S3 H' ∧ pLcL it.chk pg pt pe E (wipeP ρ ws) S1.length Q (it.items.drop (k + 1)) S3, fun H' z => ⟨_, by omega, rfl, hlt, z⟩, fun v H3 y => ?_⟩
    obtain ⟨t4, s4, r4⟩ := hy v H3 y
    refine hg E M2 _ S2 σ H3 _ v _ _ ((R.step (t13.trans t4) s4).wipe ws) r4 q2 fun M5 ρ5 S5 σ5 H5 hw t5 R5 q5 => ⟨hw, ?_⟩
    refine ht E M5 ρ5 S5 σ5 H5 _ _ R5 q5 fun M6 S6 H6 b t6 s6 q6 => ?_
    have t36 := t3.trans (t4.trans (t5.trans t6))
    cases b with
    | false =>
      rw [if_neg Bool.false_ne_true]
      exact ⟨M6, S6, t36, s6, q6⟩
    | true =>
      rw [if_pos rfl]
      refine he E M6 ρ5 S6 σ5 H6 _ _ (R5.step t6 s6) q6 fun M7 S7 H7 y7 v7 t7 s7 r7 q7 => ?_
      obtain ⟨acc, ea, hl, q7⟩ := onO_ex q7
      have t37 := t36.trans t7
      obtain ⟨a, vs, e1, e2, e3⟩ := s7.st.at_ _ _ ea
      have eq := eD t37
      rw [eq] at e1
      obtain rfl := Option.some.inj e1
      refine ⟨vs, e2, by rw [e3.length, szl]; exact hl, ?_⟩
      obtain ⟨t8, s8⟩ := s7.write eq (e3.append (.cons r7 .nil))
      exact ⟨M7, _, t37.trans t8, s8, q7⟩
  · have e : k = it.items.length := by omega
    subst e
    rw [List.drop_length] at q2
    obtain ⟨hck, q2⟩ := q2
    exact .inl ⟨(ok M2 S2 H2 _ (t2.trans t3) s3 hck).2 (by simp), p M2 S2 H2 _ _ t13 s3 (to_lst (eD t3)) q2⟩
/-- the one reading that a plain semantics stands for -/
def tE (bk : BagKind) (K : PySem.W.Frag) (f : PTE) : TE := fun σ H Q' => ∃ (E : XW) (M : Am) (ρ : PEnv) (S : Store) (Q : PQ), Rel K bk M ρ S σ H ∧ f E ρ S Q ∧ Post bk K M H Q Q'
def tT (bk : BagKind) (K : PySem.W.Frag) (f : PTT) : TT := fun σ H Q' => ∃ (E : XW) (M : Am) (ρ : PEnv) (S : Store) (Q : Bool → Store → Prop), Rel K bk M ρ S σ H ∧ f E ρ S Q ∧ PostT bk K M H Q Q'
def tGw (bk : BagKind) (K : PySem.W.Frag) (ws : List Nat) (g : PTG) : TG := fun v σ H Q' => ∃ (E : XW) (M : Am) (ρ : PEnv) (S : Store) (σ0 : St) (x : PV) (Q : PEnv → Store → Prop), σ = wipe σ0 ws ∧ Rel K bk M ρ S σ H ∧ Rp K bk.root M H x v ∧ g E x ρ S Q ∧
  ∀ M' ρ' S' σ' H', wipe σ' ws = wipe σ0 ws → Step M H M' H' → Rel K bk M' ρ' S' σ' H' → Q ρ' S' → Q' σ' H'
theorem QE.canon {e : Expr} {f : PTE} (h : QE bk X e f) : PE X e (tE bk X.K f) := by
  obtain ⟨t, p, w⟩ := h.ex
  exact ⟨fun pins s σ H Q I ⟨E, M, ρ, S, Q0, R, q, k⟩ => p.run pins s σ H Q I (w E M ρ S σ H Q0 Q R q k)⟩
theorem QTs.canon {ifs : List Expr} {f : PTT} (h : QTs bk X ifs f) : PTs X ifs (tT bk X.K f) := by
  obtain ⟨t, p, w⟩ := h.ex
  exact ⟨fun pins s σ H Q I ⟨E, M, ρ, S, Q0, R, q, k⟩ => p.run pins s σ H Q I (w E M ρ S σ H Q0 Q R q k)⟩
theorem QGw.canon {e : Expr} {g : PTG} {ws : List Nat} (h : QGw bk X e g ws) : PG X e (tGw bk X.K ws g) := by
  obtain ⟨t, p, w⟩ := h.ex
  refine ⟨fun pins s σ H v u Q I r hq => ?_⟩
  obtain ⟨E, M, ρ, S, σ0, x, Q0, rfl, R, rx, q, k⟩ := hq
  exact p.run pins s _ H v u Q I r (w E M ρ S σ0 H x v Q0 Q R rx q k)
theorem q_lc {elt tg iter : Expr} {ifs : List Expr} {scope : Scope} {own : List (Str × Nat)} {pos : Pos} {i : PTI} {pg : PTG} {pt : PTT} {pe : PTE} {ws : List Nat} (hc : X.calm = true) (hN : X.N.Nodup) (hi : QI bk X tg iter i) (ok : BlkOk X.N X.env.scope scope own) (hws : own.map (·.2) = ws)
    (hg : ∀ (s : Shared) (H : Hp) (C : Addr) (cl : List (Str × Addr)) (fp : List Addr), QGw bk (X.blk s H scope (compEnvC scope cl C X.env) fp) tg pg ws)
    (ht : ∀ (s : Shared) (H : Hp) (C : Addr) (cl : List (Str × Addr)) (fp : List Addr), QTs bk (X.blk s H scope (compEnvC scope cl C X.env) fp) ifs pt)
    (he : ∀ (s : Shared) (H : Hp) (C : Addr) (cl : List (Str × Addr)) (fp : List Addr), QE bk (X.blk s H scope (compEnvC scope cl C X.env) fp) elt pe)
    (hs : ∀ x, foldedSetIterable iter X.env x = pure x := by intro _; rfl) : QE bk X (.ListComp elt [⟨tg, iter, ifs, 0⟩] scope pos) (pLc i pg pt pe ws) := by
  obtain ⟨ti, pi, wi⟩ := hi.ex
  subst hws
  refine ⟨_, pe_lc (g := tGw bk X.K (own.map (·.2)) pg) (tt := tT bk X.K pt) (te := tE bk X.K pe) hc hN pi ok (fun s H C cl fp => (hg s H C cl fp).canon) (fun s H C cl fp => (ht s H C cl fp).canon) (fun s H C cl fp => (he s H C cl fp).canon) hs, fun E M ρ S σ H Q Q' R q p => ?_⟩
  exact lc_sound wi (fun E M ρ S σ0 H x v Q Q' R r q k => ⟨E, M, ρ, S, σ0, x, Q, rfl, R, r, q, k⟩) (fun E M ρ S σ H Q Q' R q k => ⟨E, M, ρ, S, Q, R, q, k⟩) (fun E M ρ S σ H Q Q' R q k => ⟨E, M, ρ, S, Q, R, q, k⟩) E M ρ S σ H Q Q' R q p
/-- name = [..] on one line -/
theorem q_setLc {j : Nat} {y : Str} {py : Pos} {elt tg iter : Expr} {ifs : List Expr} {scope : Scope} {own : List (Str × Nat)} {pos spos : Pos} {i : PTI} {pg : PTG} {pt : PTT} {pe : PTE} {ws : List Nat} (hc : X.calm = true) (hN : X.N.Nodup) (hy : X.N[j]? = some y) (hyl : X.env.scope.names.lookup y = some .local)
    (hsw : swapsWith (.ListComp elt [⟨tg, iter, ifs, 0⟩] scope pos) (some (.Name y py)) spos.line X.env = pure true) (hi : QI bk X tg iter i) (ok : BlkOk X.N X.env.scope scope own) (hws : own.map (·.2) = ws)
    (hg : ∀ (s : Shared) (H : Hp) (C : Addr) (cl : List (Str × Addr)) (fp : List Addr), QGw bk (X.blk s H scope (compEnvC scope cl C X.env) fp) tg pg ws)
    (ht : ∀ (s : Shared) (H : Hp) (C : Addr) (cl : List (Str × Addr)) (fp : List Addr), QTs bk (X.blk s H scope (compEnvC scope cl C X.env) fp) ifs pt)
    (he : ∀ (s : Shared) (H : Hp) (C : Addr) (cl : List (Str × Addr)) (fp : List Addr), QE bk (X.blk s H scope (compEnvC scope cl C X.env) fp) elt pe)
    (hs : ∀ x, foldedSetIterable iter X.env x = pure x := by intro _; rfl) : QS bk X (.Assign [.Name y py] (.ListComp elt [⟨tg, iter, ifs, 0⟩] scope pos) spos) (pSet j (pLc i pg pt pe ws)) := by
  obtain ⟨ti, pi, wi⟩ := hi.ex
  subst hws
  refine ⟨_, ps_setLc (g := tGw bk X.K (own.map (·.2)) pg) (tt := tT bk X.K pt) (te := tE bk X.K pe) hc hN hy hyl hsw pi ok (fun s H C cl fp => (hg s H C cl fp).canon) (fun s H C cl fp => (ht s H C cl fp).canon) (fun s H C cl fp => (he s H C cl fp).canon) hs, fun E M ρ S σ H D D' R q p => ?_⟩
  exact lc_sound wi (fun E M ρ S σ0 H x v Q Q' R r q k => ⟨E, M, ρ, S, σ0, x, Q, rfl, R, r, q, k⟩) (fun E M ρ S σ H Q Q' R q k => ⟨E, M, ρ, S, Q, R, q, k⟩) (fun E M ρ S σ H Q Q' R q k => ⟨E, M, ρ, S, Q, R, q, k⟩) E M ρ S σ H _ _ R q fun M1 S1 H1 x v t1 s1 r1 q1 => p.nx M1 _ S1 _ H1 t1 ((R.step t1 s1).set j r1) q1
end
end L2.P3
namespace L2.P3
open PySem PySem.Spec PyProof.Rows

theorem ClP.or {bk : BagKind} {K : PySem.W.Frag} {r r' : List V → Hp → VK → Prop} {o o' : PCl} (h : ClP bk K r o) (h' : ClP bk K r' o') : ClP bk K (fun x H Q => r x H Q ∨ r' x H Q) (fun x S Q => o x S Q ∨ o' x S Q) := fun M S H x v Q Q' s r1 q p => by
  rcases q with q | q
  · exact .inl (h M S H x v Q Q' s r1 q p)
  · exact .inr (h' M S H x v Q Q' s r1 q p)
theorem CallR.or {X : Cx} {f : Value} {r r' : List V → Hp → VK → Prop} (h : CallR X f r) (h' : CallR X f r') : CallR X f (fun x H Q => r x H Q ∨ r' x H Q) := by
  intro pins s σ H xs us Q I rv q
  rcases q with q | q
  · exact h pins s σ H xs us Q I rv q
  · exact h' pins s σ H xs us Q I rv q

section
variable {bk : BagKind} {K : PySem.W.Frag} {M : Am} {H : Hp} {r : Nat} {S : Store}
theorem rps1 {x : PV} {vs : List V} (h : Rps K r M H [x] vs) : ∃ v, vs = [v] ∧ Rp K r M H x v := by
  rw [Rps] at h
  obtain ⟨v, ws, rfl, h1, h2⟩ := h
  rw [Rps] at h2; subst h2
  exact ⟨v, rfl, h1⟩
theorem rps2 {x y : PV} {vs : List V} (h : Rps K r M H [x, y] vs) : ∃ v w, vs = [v, w] ∧ Rp K r M H x v ∧ Rp K r M H y w := by
  rw [Rps] at h
  obtain ⟨v, ws, rfl, h1, h2⟩ := h
  obtain ⟨w, rfl, h3⟩ := rps1 h2
  exact ⟨v, w, rfl, h1, h3⟩
theorem rps_ints {ns : List Int} : ∀ {vs : List V}, Rps K r M H (ns.map PV.int) vs → vs = ns.map V.int := by
  induction ns with
  | nil => intro vs h; simpa [Rps] using h
  | cons n ns ih =>
    intro vs h
    rw [List.map_cons, Rps] at h
    obtain ⟨v, ws, rfl, h1, h2⟩ := h
    rw [rp_int h1, ih h2]; rfl
theorem Sto.lst {n : Nat} {a : Addr} {xs : List PV} (s : Sto K bk M S H) (ea : M.m[n]? = some a) (e1 : S[n]? = some xs) : ∃ vs, H a = some (.lst vs) ∧ Rps K bk.root M H xs vs := by
  obtain ⟨a', vs, ea', h1, sv⟩ := s.st.at_ _ _ e1
  rw [ea] at ea'; obtain rfl := Option.some.inj ea'
  exact ⟨vs, h1, sv⟩
end

/-! ### built-ins -/
def oLen : PCl := fun xs S Q => match xs with
  | [.tup ys] => Q (.int ys.length) S
  | [.lst n] => onO S[n]? fun ys => Q (.int ys.length) S
  | [.rol ys] => Q (.int ys.length) S
  | [.str z] => z.length ≤ 16777216 ∧ Q (.int z.length) S
  | _ => False
instance : MoC oLen := ⟨fun h q => by
  unfold oLen at q ⊢
  split at q <;> first | exact h _ _ q | exact ⟨q.1, h _ _ q.2⟩ | exact q.elim | exact onO_mo (fun _ q => h _ _ q) q | exact onO_mo (fun _ q => onO_mo (fun _ q => h _ _ q) q) q⟩
def oAbs : PCl := fun xs S Q => match xs with | [.int i] => Q (.int (i.natAbs : Int)) S | _ => False
instance : MoC oAbs := ⟨fun h q => by unfold oAbs at q ⊢; split at q <;> first | exact h _ _ q | exact q.elim⟩
def oInt : PCl := fun xs S Q => match xs with | [.int i] => Q (.int i) S | [.bl b] => Q (.int (if b then 1 else 0)) S | _ => False
instance : MoC oInt := ⟨fun h q => by unfold oInt at q ⊢; split at q <;> first | exact h _ _ q | exact q.elim⟩
def oMax2 : PCl := fun xs S Q => match xs with | [.int i, .int j] => Q (.int (max i j)) S | _ => False
instance : MoC oMax2 := ⟨fun h q => by unfold oMax2 at q ⊢; split at q <;> first | exact h _ _ q | exact q.elim⟩
def oMin2 : PCl := fun xs S Q => match xs with | [.int i, .int j] => Q (.int (min i j)) S | _ => False
instance : MoC oMin2 := ⟨fun h q => by unfold oMin2 at q ⊢; split at q <;> first | exact h _ _ q | exact q.elim⟩
def oTuple : PCl := fun xs S Q => match xs with
  | [.tup ys] => Q (.tup ys) S
  | [.lst n] => onO S[n]? fun ys => Q (.tup ys) S
  | [.rol ys] => Q (.tup ys) S
  | _ => False
instance : MoC oTuple := ⟨fun h q => by
  unfold oTuple at q ⊢
  split at q <;> first | exact h _ _ q | exact q.elim | exact onO_mo (fun _ q => h _ _ q) q | exact onO_mo (fun _ q => onO_mo (fun _ q => h _ _ q) q) q⟩
def oList : PCl := fun xs S Q => match xs with
  | [.tup ys] => Q (.lst S.length) (S ++ [ys])
  | [.lst n] => onO S[n]? fun ys => Q (.lst S.length) (S ++ [ys])
  | [.rol ys] => Q (.lst S.length) (S ++ [ys])
  | _ => False
instance : MoC oList := ⟨fun h q => by
  unfold oList at q ⊢
  split at q <;> first | exact h _ _ q | exact q.elim | exact onO_mo (fun _ q => h _ _ q) q | exact onO_mo (fun _ q => onO_mo (fun _ q => h _ _ q) q) q⟩
def asInts : List PV → Option (List Int)
  | [] => some []
  | .int i :: xs => (asInts xs).map fun ns => i :: ns
  | _ => none
theorem asInts_map : ∀ ns : List Int, asInts (ns.map PV.int) = some ns
  | [] => rfl
  | n :: ns => by simp [asInts, asInts_map ns]
theorem asInts_eq : ∀ {xs : List PV} {ns : List Int}, asInts xs = some ns → xs = ns.map PV.int
  | [], ns, h => by simp [asInts] at h; subst h; rfl
  | x :: xs, ns, h => by
    cases x <;> simp [asInts] at h
    obtain ⟨m, e, rfl⟩ := h
    rw [asInts_eq e]; rfl
def oSum : PCl := fun xs S Q => match xs with
  | [.lst n] => onO S[n]? fun ys => onO (asInts ys) fun ns => Q (.int ns.sum) S
  | _ => False
instance : MoC oSum := ⟨fun h q => by unfold oSum at q ⊢; split at q <;> first | exact q.elim | exact onO_mo (fun _ q => h _ _ q) q | exact onO_mo (fun _ q => onO_mo (fun _ q => h _ _ q) q) q⟩
def oGcd : PCl := fun xs S Q => match xs with | [.int i, .int j] => Q (.int (Int.gcd i j : Nat)) S | _ => False
instance : MoC oGcd := ⟨fun h q => by unfold oGcd at q ⊢; split at q <;> first | exact h _ _ q | exact q.elim⟩
def oDivmod : PCl := fun xs S Q => match xs with | [.int i, .int j] => DivOk j ∧ Q (.tup [.int (i.fdiv j), .int (i.fmod j)]) S | _ => False
instance : MoC oDivmod := ⟨fun h q => by unfold oDivmod at q ⊢; split at q <;> first | exact ⟨q.1, h _ _ q.2⟩ | exact q.elim⟩
section
variable {bk : BagKind} {K : PySem.W.Frag} {X : Cx}
theorem oLenP : ClP bk K (fun xs H Q => ∃ x n, xs = [x] ∧ LenV K x H n ∧ Q (.int n) H) oLen := fun M S H x v Q Q' s r q p => by
  unfold oLen at q
  split at q
  · obtain ⟨v, rfl, z⟩ := rps1 r
    obtain ⟨a, vs, rfl, h1, sv⟩ := rp_tup z
    exact ⟨_, _, rfl, .inr ⟨vs, h1, rfl⟩, p M S H _ _ (.refl M H) s (by rw [sv.length]; exact to_int) q⟩
  · obtain ⟨v, rfl, z⟩ := rps1 r
    obtain ⟨ys, e, q⟩ := onO_ex q
    obtain ⟨a, ea, rfl⟩ := rp_lst z
    obtain ⟨vs, h1, sv⟩ := s.lst ea e
    exact ⟨_, _, rfl, .inl ⟨vs, SqL.of h1, rfl⟩, p M S H _ _ (.refl M H) s (by rw [sv.length]; exact to_int) q⟩
  · obtain ⟨v, rfl, z⟩ := rps1 r
    obtain ⟨a, vs, rfl, h1, sv⟩ := rp_rol z
    exact ⟨_, _, rfl, .inl ⟨vs, h1.sq, rfl⟩, p M S H _ _ (.refl M H) s (by rw [sv.length]; exact to_int) q⟩
  · obtain ⟨v, rfl, z⟩ := rps1 r
    rw [rp_str z]
    exact ⟨_, _, rfl, ⟨by rw [szl]; exact q.1, rfl⟩, p M S H _ _ (.refl M H) s to_int q.2⟩
  · exact q.elim
theorem oAbsP : ClP bk K (fun xs H Q => ∃ i, xs = [.int i] ∧ Q (.int (if i < 0 then -i else i)) H) oAbs := fun M S H x v Q Q' s r q p => by
  unfold oAbs at q
  split at q
  · rename_i i
    obtain ⟨v, rfl, z⟩ := rps1 r
    rw [rp_int z]
    have e : (if i < 0 then -i else i) = (i.natAbs : Int) := by split <;> omega
    exact ⟨i, rfl, p M S H _ _ (.refl M H) s (by rw [e]; exact to_int) q⟩
  · exact q.elim
theorem oIntP : ClP bk K (fun xs H Q => (∃ i, xs = [.int i] ∧ Q (.int i) H) ∨ ∃ k, xs = [.bl k] ∧ Q (.int (if k then 1 else 0)) H) oInt := fun M S H x v Q Q' s r q p => by
  unfold oInt at q
  split at q
  · obtain ⟨v, rfl, z⟩ := rps1 r
    rw [rp_int z]
    exact .inl ⟨_, rfl, p M S H _ _ (.refl M H) s to_int q⟩
  · obtain ⟨v, rfl, z⟩ := rps1 r
    rw [rp_bl z]
    exact .inr ⟨_, rfl, p M S H _ _ (.refl M H) s to_int q⟩
  · exact q.elim
theorem oMax2P : ClP bk K (fun xs H Q => ∃ i j, xs = [.int i, .int j] ∧ Q (.int (if j > i then j else i)) H) oMax2 := fun M S H x v Q Q' s r q p => by
  unfold oMax2 at q
  split at q
  · rename_i i j
    obtain ⟨v, w, rfl, r1, r2⟩ := rps2 r
    rw [rp_int r1, rp_int r2]
    have e : (if j > i then j else i) = max i j := by split <;> omega
    exact ⟨i, j, rfl, p M S H _ _ (.refl M H) s (by rw [e]; exact to_int) q⟩
  · exact q.elim
theorem oMin2P : ClP bk K (fun xs H Q => ∃ i j, xs = [.int i, .int j] ∧ Q (.int (if j < i then j else i)) H) oMin2 := fun M S H x v Q Q' s r q p => by
  unfold oMin2 at q
  split at q
  · rename_i i j
    obtain ⟨v, w, rfl, r1, r2⟩ := rps2 r
    rw [rp_int r1, rp_int r2]
    have e : (if j < i then j else i) = min i j := by split <;> omega
    exact ⟨i, j, rfl, p M S H _ _ (.refl M H) s (by rw [e]; exact to_int) q⟩
  · exact q.elim
theorem oTupleP : ClP bk K (fun xs H Q => ∃ p ys, xs = [.ref p] ∧ ((SqL K H p ys ∧ ∀ l, H l = none → Q (.ref l) (upd H l (.tup ys))) ∨ (SqT K H p ys ∧ Q (.ref p) H))) oTuple := fun M S H x v Q Q' s r q p => by
  unfold oTuple at q
  split at q
  · obtain ⟨v, rfl, z⟩ := rps1 r
    obtain ⟨a, vs, rfl, h1, sv⟩ := rp_tup z
    exact ⟨a, vs, rfl, .inr ⟨h1, p M S H _ _ (.refl M H) s (to_tup h1 sv) q⟩⟩
  · obtain ⟨v, rfl, z⟩ := rps1 r
    obtain ⟨ys, e, q⟩ := onO_ex q
    obtain ⟨a, ea, rfl⟩ := rp_lst z
    obtain ⟨vs, h1, sv⟩ := s.lst ea e
    exact ⟨a, vs, rfl, .inl ⟨SqL.of h1, p.tup s sv q⟩⟩
  · obtain ⟨v, rfl, z⟩ := rps1 r
    obtain ⟨a, vs, rfl, h1, sv⟩ := rp_rol z
    exact ⟨a, vs, rfl, .inl ⟨h1.sq, p.tup s sv q⟩⟩
  · exact q.elim
theorem oListP : ClP bk K (fun xs H Q => ∃ p ys, xs = [.ref p] ∧ (SqL K H p ys ∨ SqT K H p ys) ∧ ∀ l, H l = none → Q (.ref l) (upd H l (.lst ys))) oList := fun M S H x v Q Q' s r q p => by
  unfold oList at q
  split at q
  · obtain ⟨v, rfl, z⟩ := rps1 r
    obtain ⟨a, vs, rfl, h1, sv⟩ := rp_tup z
    exact ⟨a, vs, rfl, .inr h1, p.lst s sv q⟩
  · obtain ⟨v, rfl, z⟩ := rps1 r
    obtain ⟨ys, e, q⟩ := onO_ex q
    obtain ⟨a, ea, rfl⟩ := rp_lst z
    obtain ⟨vs, h1, sv⟩ := s.lst ea e
    exact ⟨a, vs, rfl, .inl (SqL.of h1), p.lst s sv q⟩
  · obtain ⟨v, rfl, z⟩ := rps1 r
    obtain ⟨a, vs, rfl, h1, sv⟩ := rp_rol z
    exact ⟨a, vs, rfl, .inl h1.sq, p.lst s sv q⟩
  · exact q.elim
theorem oSumP : ClP bk K (rSum K) oSum := fun M S H x v Q Q' s r q p => by
  unfold oSum at q
  split at q
  · obtain ⟨v, rfl, z⟩ := rps1 r
    obtain ⟨ys, e, q⟩ := onO_ex q
    obtain ⟨ns, e0, q⟩ := onO_ex q
    rw [asInts_eq e0] at e
    obtain ⟨a, ea, rfl⟩ := rp_lst z
    obtain ⟨vs, h1, sv⟩ := s.lst ea e
    rw [rps_ints sv] at h1
    exact ⟨a, ns, rfl, SqL.of h1, p M S H _ _ (.refl M H) s to_int q⟩
  · exact q.elim
theorem oGcdP : ClP bk K rGcd oGcd := fun M S H x v Q Q' s r q p => by
  unfold oGcd at q
  split at q
  · obtain ⟨v, w, rfl, r1, r2⟩ := rps2 r
    rw [rp_int r1, rp_int r2]
    exact ⟨_, _, rfl, p M S H _ _ (.refl M H) s to_int q⟩
  · exact q.elim
theorem call_divmodX : CallR X (.builtin "divmod") (fun xs H Q => ∃ i j, xs = [.int i, .int j] ∧ DivOk j ∧ ∀ p, H p = none → Q (.ref p) (upd H p (.tup [.int (i.fdiv j), .int (i.fmod j)]))) := by
  intro pins s σ H xs us Q I r h
  obtain ⟨i, j, rfl, ⟨h1, h2⟩, q⟩ := h
  obtain ⟨u, w', rfl, ⟨t, rfl⟩, ⟨t', rfl⟩⟩ := vals2 r
  refine divmod_int h1 ?_ (.inl (PyProof.noPylong_of_log2 h2))
  have hn : H s.heap.objs.size = none := I.hok.fresh (Nat.le_refl _)
  refine ⟨.ref s.heap.objs.size, _, ?_, rfl, q _ hn⟩
  refine I.laid (fun b o e => Heap.get?_push_of_some _ e) (Nat.le_refl _) ⟨by simp only [List.length_cons, List.length_nil]; rw [sizeLine_eq]; decide, [.int (i.fdiv j) s.toks, .int (i.fmod j) (s.toks + 1)], .cons ⟨_, rfl⟩ (.cons ⟨_, rfl⟩ .nil), ?_⟩
  exact ⟨_, Heap.get?_push_size s.heap rfl, rfl, 0, rfl⟩
theorem oDivmodP : ClP bk K (fun xs H Q => ∃ i j, xs = [.int i, .int j] ∧ DivOk j ∧ ∀ p, H p = none → Q (.ref p) (upd H p (.tup [.int (i.fdiv j), .int (i.fmod j)]))) oDivmod := fun M S H x v Q Q' s r q p => by
  unfold oDivmod at q
  split at q
  · obtain ⟨v, w, rfl, r1, r2⟩ := rps2 r
    rw [rp_int r1, rp_int r2]
    exact ⟨_, _, rfl, q.1, p.tup s (.cons to_int (.cons to_int .nil)) q.2⟩
  · exact q.elim

/-! ### isinstance against a built-in class -/
inductive Ty1 where | int | bool | str | tuple | list
def Ty1.name : Ty1 → String
  | .int => "int" | .bool => "bool" | .str => "str" | .tuple => "tuple" | .list => "list"
def isT : Ty1 → PV → Bool
  | .int, .int _ => true
  | .int, .bl _ => true
  | .bool, .bl _ => true
  | .str, .str _ => true
  | .tuple, .tup _ => true
  | .list, .lst _ => true
  | .list, .rol _ => true
  | .list, .bag => true
  | _, _ => false
def tyN : PV → String
  | .non => "NoneType"
  | .bl _ => "bool"
  | .int _ => "int"
  | .str _ => "str"
  | .tup _ => "tuple"
  | .lst _ => "list"
  | .rol _ => "list"
  | .bag => "list"
def pIsi (T : Ty1) (f : PTE) : PTE := fun E ρ S Q => f E ρ S fun x S1 => Q (.bl (isT T x)) S1
instance {T : Ty1} {f : PTE} [MoE f] : MoE (pIsi T f) := ⟨fun h q => MoE.mo (f := f) (fun _ _ q => h _ _ q) q⟩
structure IsiT (T : Ty1) : Prop where
  h : ∀ x : PV, kitB (tyN x) T.name = some (isT T x)
theorem kit_int : kitB "NoneType" "int" = some false ∧ kitB "bool" "int" = some true ∧ kitB "int" "int" = some true ∧ kitB "str" "int" = some false ∧ kitB "tuple" "int" = some false ∧ kitB "list" "int" = some false := by decide +kernel
theorem kit_bool : kitB "NoneType" "bool" = some false ∧ kitB "bool" "bool" = some true ∧ kitB "int" "bool" = some false ∧ kitB "str" "bool" = some false ∧ kitB "tuple" "bool" = some false ∧ kitB "list" "bool" = some false := by decide +kernel
theorem kit_str : kitB "NoneType" "str" = some false ∧ kitB "bool" "str" = some false ∧ kitB "int" "str" = some false ∧ kitB "str" "str" = some true ∧ kitB "tuple" "str" = some false ∧ kitB "list" "str" = some false := by decide +kernel
theorem kit_tuple : kitB "NoneType" "tuple" = some false ∧ kitB "bool" "tuple" = some false ∧ kitB "int" "tuple" = some false ∧ kitB "str" "tuple" = some false ∧ kitB "tuple" "tuple" = some true ∧ kitB "list" "tuple" = some false := by decide +kernel
theorem kit_list : kitB "NoneType" "list" = some false ∧ kitB "bool" "list" = some false ∧ kitB "int" "list" = some false ∧ kitB "str" "list" = some false ∧ kitB "tuple" "list" = some false ∧ kitB "list" "list" = some true := by decide +kernel
theorem isi_int : IsiT .int := ⟨fun x => by obtain ⟨a, b, c, d, e, f⟩ := kit_int; cases x <;> first | exact a | exact b | exact c | exact d | exact e | exact f⟩
theorem isi_bool : IsiT .bool := ⟨fun x => by obtain ⟨a, b, c, d, e, f⟩ := kit_bool; cases x <;> first | exact a | exact b | exact c | exact d | exact e | exact f⟩
theorem isi_str : IsiT .str := ⟨fun x => by obtain ⟨a, b, c, d, e, f⟩ := kit_str; cases x <;> first | exact a | exact b | exact c | exact d | exact e | exact f⟩
theorem isi_tuple : IsiT .tuple := ⟨fun x => by obtain ⟨a, b, c, d, e, f⟩ := kit_tuple; cases x <;> first | exact a | exact b | exact c | exact d | exact e | exact f⟩
theorem isi_list : IsiT .list := ⟨fun x => by obtain ⟨a, b, c, d, e, f⟩ := kit_list; cases x <;> first | exact a | exact b | exact c | exact d | exact e | exact f⟩
theorem tyx_of {M : Am} {S : Store} {H : Hp} {x : PV} {v : V} (s : Sto K bk M S H) (r : Rp K bk.root M H x v) : TyX K H v (.type (tyN x)) := by
  cases x
  · rw [rp_non r]; exact .base .non
  · rw [rp_bl r]; exact .base (.bl _)
  · rw [rp_int r]; exact .base (.int _)
  · rw [rp_str r]; exact .base (.str _)
  · obtain ⟨a, vs, rfl, h1, _⟩ := rp_tup r
    rcases h1 with (h1 | ⟨o, h1⟩) | ⟨o, its, n, h1, h2, _⟩
    · exact .base (.tup h1)
    · exact .fTuple h1
    · exact .kTuple h1 h2
  · rename_i n
    obtain ⟨a, ea, rfl⟩ := rp_lst r
    have hn : n < S.length := by rw [← s.st.len]; exact (List.getElem?_eq_some_iff.mp ea).1
    obtain ⟨vs, h1, _⟩ := s.lst ea (List.getElem?_eq_getElem hn)
    exact .base (.lst h1)
  · obtain ⟨a, vs, rfl, h1, _⟩ := rp_rol r
    rcases h1 with ⟨o, h1⟩ | ⟨o, its, n, h1, h2, _⟩
    · exact .base (.frz h1)
    · exact .kList h1 h2
  · rw [Rp] at r
    obtain ⟨own, a, e1, e2, rfl⟩ := r
    have b := s.bag
    rw [e1] at b
    obtain ⟨_, _, cs, _, _, t⟩ := b
    obtain ⟨c, _, h1⟩ := t _ _ e2
    exact .base (.lst h1)
theorem q_isi {T : Ty1} {p1 p2 pos : Pos} {e : Expr} {f : PTE} {y : Str} (hT : IsiT T) (hg : Gl X "isinstance") (hm : X.mg "isinstance" = none) (hv : bootBuiltins "isinstance" = some (.builtin "isinstance")) (ha : QE bk X e f)
    (hgT : Gl X y) (hmT : X.mg y = none) (hvT : bootBuiltins y = some (.type T.name)) (hn : y ≠ "__name__" := by decide) (hd : (y == ("__debug__" : Str)) = false := by decide)
    (he1 : starEach [e, .Name y p2] X.env = (false, eval e X.env) :: starEach [.Name y p2] X.env := by rfl) (he2 : starEach [.Name y p2] X.env = (false, eval (.Name y p2) X.env) :: starEach [] X.env := by rfl)
    (hpl : (backTo pos (starEach [.Name y p2] X.env)).any (·.1) = false := by rfl) : QE bk X (.Call (.Name "isinstance" p1) [e, .Name y p2] [] pos) (pIsi T f) := by
  obtain ⟨ta, pa, wa⟩ := ha.ex
  refine ⟨_, pe_callB call_isi hg hm hv (pa_cons pa (pa_cons (pe_bltn (v := .ty T.name) hgT hmT hvT rfl hn hd) pa_nil he2) he1) (by decide) (by decide) he1 hpl, fun E M ρ S σ H Q Q' R q p => ?_⟩
  refine wa E M ρ S σ H _ _ R q fun M1 S1 H1 x v t1 s1 r1 q1 => ?_
  exact ⟨v, .ty T.name, _, _, isT T x, rfl, .ty T.name, tyx_of s1 r1, kit_ty (hT.h x), p M1 S1 H1 _ _ t1 s1 to_bl q1⟩
end

/-! ### methods of lists -/
def pAppend (f g : PTE) : PTE := fun E ρ S Q => f E ρ S fun x S1 => match x with
  | .lst n => g E ρ S1 fun y S2 => onO S2[n]? fun xs => xs.length < 16777216 ∧ Q .non (S2.set n (xs ++ [y]))
  | _ => False
instance {f g : PTE} [MoE f] [MoE g] : MoE (pAppend f g) := ⟨fun h q => MoE.mo (f := f) (fun x _ q => by
  cases x <;> first | exact q.elim | exact MoE.mo (f := g) (fun _ _ q => onO_mo (fun _ q => ⟨q.1, h _ _ q.2⟩) q) q) q⟩
def pPop (f : PTE) : PTE := fun E ρ S Q => f E ρ S fun x S1 => match x with
  | .lst n => onO S1[n]? fun xs => onO xs.getLast? fun y => Q y (S1.set n xs.dropLast)
  | _ => False
instance {f : PTE} [MoE f] : MoE (pPop f) := ⟨fun h q => MoE.mo (f := f) (fun x _ q => by
  cases x <;> first | exact q.elim | exact onO_mo (fun _ q => onO_mo (fun _ q => h _ _ q) q) q) q⟩
def pReverse (f : PTE) : PTE := fun E ρ S Q => f E ρ S fun x S1 => match x with
  | .lst n => onO S1[n]? fun xs => Q .non (S1.set n xs.reverse)
  | _ => False
instance {f : PTE} [MoE f] : MoE (pReverse f) := ⟨fun h q => MoE.mo (f := f) (fun x _ q => by
  cases x <;> first | exact q.elim | exact onO_mo (fun _ q => h _ _ q) q) q⟩
def pExtend (f g : PTE) : PTE := fun E ρ S Q => f E ρ S fun x S1 => match x with
  | .lst n => g E ρ S1 fun y S2 => match y with
    | .lst m => onO S2[n]? fun xs => onO S2[m]? fun ys => xs.length + ys.length ≤ 16777216 ∧ Q .non (S2.set n (xs ++ ys))
    | _ => False
  | _ => False
instance {f g : PTE} [MoE f] [MoE g] : MoE (pExtend f g) := ⟨fun h q => MoE.mo (f := f) (fun x _ q => by
  cases x <;> first | exact q.elim | exact MoE.mo (f := g) (fun y _ q => by
    cases y <;> first | exact q.elim | exact onO_mo (fun _ q => onO_mo (fun _ q => ⟨q.1, h _ _ q.2⟩) q) q) q) q⟩
section
variable {bk : BagKind} {K : PySem.W.Frag} {X : Cx} {o e : Expr} {f g : PTE} {apos cpos : Pos}
theorem Rps.reverse {M : Am} {H : Hp} {r : Nat} : ∀ {xs : List PV} {vs : List V}, Rps K r M H xs vs → Rps K r M H xs.reverse vs.reverse
  | [], vs, h => by rw [Rps] at h; subst h; exact Rps.nil
  | x :: xs, vs, h => by
    rw [Rps] at h
    obtain ⟨v, ws, rfl, h1, h2⟩ := h
    rw [List.reverse_cons, List.reverse_cons]
    exact (Rps.reverse h2).append (.cons h1 .nil)
theorem Rps.snoc {M : Am} {H : Hp} {r : Nat} : ∀ {xs : List PV} {y : PV} {vs : List V}, Rps K r M H (xs ++ [y]) vs → ∃ ws w, vs = ws ++ [w] ∧ Rps K r M H xs ws ∧ Rp K r M H y w
  | [], y, vs, h => by
    obtain ⟨v, rfl, h1⟩ := rps1 (by simpa using h)
    exact ⟨[], v, rfl, .nil, h1⟩
  | x :: xs, y, vs, h => by
    rw [List.cons_append, Rps] at h
    obtain ⟨v, ws, rfl, h1, h2⟩ := h
    obtain ⟨us, w, rfl, h3, h4⟩ := Rps.snoc h2
    exact ⟨v :: us, w, rfl, .cons h1 h3, h4⟩
theorem Sto.tyL {M : Am} {S : Store} {H : Hp} {n : Nat} {a : Addr} (s : Sto K bk M S H) (ea : M.m[n]? = some a) : tyV K "list" (.ref a) H := by
  have hn : n < S.length := by rw [← s.st.len]; exact (List.getElem?_eq_some_iff.mp ea).1
  obtain ⟨vs, h1, _⟩ := s.lst ea (List.getElem?_eq_getElem hn)
  exact .inl ⟨rfl, vs, SqL.of h1⟩
theorem Step.at {M M' : Am} {H H' : Hp} (t : Step M H M' H') {n : Nat} {a : Addr} (e : M.m[n]? = some a) : M'.m[n]? = some a := by
  obtain ⟨l, e'⟩ := t.pre
  rw [e', List.getElem?_append_left (List.getElem?_eq_some_iff.mp e).1]; exact e
theorem q_append (ho : QE bk X o f) (he : QE bk X e g)
    (hbase : attributeBase o "append" X.env (eval o X.env) = eval o X.env := by rfl)
    (hfew : ((backTo cpos (starEach [e] X.env)).all (fun x => !x.1) && (backToKw cpos (keywordEach [] X.env)).all (fun x => x.1.isSome)
      && decide (([e] : List Expr).length + ([] : List Keyword).length + (if ([] : List Keyword).isEmpty then 0 else 1) < 30)) = true := by rfl)
    (hline : (apos.endLine == cpos.line) = true := by rfl) (hs : starEach [e] X.env = (false, eval e X.env) :: starEach [] X.env := by rfl) (hplain : (backTo cpos (starEach [] X.env)).any (·.1) = false := by rfl) :
    QE bk X (.Call (.Attribute o "append" apos) [e] [] cpos) (pAppend f g) := by
  obtain ⟨ta, pa, wa⟩ := ho.ex
  obtain ⟨tb, pb, wb⟩ := he.ex
  refine ⟨_, pe_bm PySem.F.plainAttrs_list PySem.F.slot_list_append PySem.F.type_list_append mt_append pa (pa_cons pb pa_nil hs) hbase hfew hline hs hplain, fun E M ρ S σ H Q Q' R q p => ?_⟩
  refine wa E M ρ S σ H _ _ R q fun M1 S1 H1 x v t1 s1 r1 q1 => ?_
  cases x <;> first | exact q1.elim | skip
  rename_i n
  obtain ⟨a, ea, rfl⟩ := rp_lst r1
  refine ⟨s1.tyL ea, wb E M1 ρ S1 σ H1 _ _ (R.step t1 s1) q1 fun M2 S2 H2 y w t2 s2 r2 q2 => ?_⟩
  obtain ⟨xs, e1, hl, q2⟩ := onO_ex q2
  have ea2 := t2.at ea
  obtain ⟨vs, h1, sv⟩ := s2.lst ea2 e1
  obtain ⟨t3, s3⟩ := s2.write ea2 (sv.append (.cons r2 .nil))
  exact ⟨a, vs, w, rfl, rfl, h1, by rw [sv.length, szl]; exact hl, p _ _ _ _ _ (t1.trans (t2.trans t3)) s3 to_non q2⟩
theorem q_extend (ho : QE bk X o f) (he : QE bk X e g)
    (hbase : attributeBase o "extend" X.env (eval o X.env) = eval o X.env := by rfl)
    (hfew : ((backTo cpos (starEach [e] X.env)).all (fun x => !x.1) && (backToKw cpos (keywordEach [] X.env)).all (fun x => x.1.isSome)
      && decide (([e] : List Expr).length + ([] : List Keyword).length + (if ([] : List Keyword).isEmpty then 0 else 1) < 30)) = true := by rfl)
    (hline : (apos.endLine == cpos.line) = true := by rfl) (hs : starEach [e] X.env = (false, eval e X.env) :: starEach [] X.env := by rfl) (hplain : (backTo cpos (starEach [] X.env)).any (·.1) = false := by rfl) :
    QE bk X (.Call (.Attribute o "extend" apos) [e] [] cpos) (pExtend f g) := by
  obtain ⟨ta, pa, wa⟩ := ho.ex
  obtain ⟨tb, pb, wb⟩ := he.ex
  refine ⟨_, pe_bm PySem.F.plainAttrs_list PySem.F.slot_list_extend PySem.F.type_list_extend mt_extend pa (pa_cons pb pa_nil hs) hbase hfew hline hs hplain, fun E M ρ S σ H Q Q' R q p => ?_⟩
  refine wa E M ρ S σ H _ _ R q fun M1 S1 H1 x v t1 s1 r1 q1 => ?_
  cases x <;> first | exact q1.elim | skip
  rename_i n
  obtain ⟨a, ea, rfl⟩ := rp_lst r1
  refine ⟨s1.tyL ea, wb E M1 ρ S1 σ H1 _ _ (R.step t1 s1) q1 fun M2 S2 H2 y w t2 s2 r2 q2 => ?_⟩
  cases y <;> first | exact q2.elim | skip
  rename_i m
  obtain ⟨xs, e1, q2⟩ := onO_ex q2
  obtain ⟨ys, e2, hl, q2⟩ := onO_ex q2
  have ea2 := t2.at ea
  obtain ⟨vs, h1, sv⟩ := s2.lst ea2 e1
  obtain ⟨b, eb, rfl⟩ := rp_lst r2
  obtain ⟨ws, h2, sw⟩ := s2.lst eb e2
  obtain ⟨t3, s3⟩ := s2.write ea2 (sv.append sw)
  exact ⟨a, b, vs, ws, rfl, rfl, h1, h2, by rw [sv.length, sw.length, szl]; exact hl, p _ _ _ _ _ (t1.trans (t2.trans t3)) s3 to_non q2⟩
theorem q_pop (ho : QE bk X o f) (hbase : attributeBase o "pop" X.env (eval o X.env) = eval o X.env := by rfl) (hline : (apos.endLine == cpos.line) = true := by rfl) : QE bk X (.Call (.Attribute o "pop" apos) [] [] cpos) (pPop f) := by
  obtain ⟨ta, pa, wa⟩ := ho.ex
  refine ⟨_, pe_bm0 PySem.F.plainAttrs_list PySem.F.slot_list_pop PySem.F.type_list_pop mt_pop pa hbase hline, fun E M ρ S σ H Q Q' R q p => ?_⟩
  refine wa E M ρ S σ H _ _ R q fun M1 S1 H1 x v t1 s1 r1 q1 => ?_
  cases x <;> first | exact q1.elim | skip
  rename_i n
  obtain ⟨zs, e1, q1⟩ := onO_ex q1
  obtain ⟨y, e2, q1⟩ := onO_ex q1
  obtain ⟨xs, rfl⟩ := List.getLast?_eq_some_iff.mp e2
  rw [List.dropLast_concat] at q1
  obtain ⟨a, ea, rfl⟩ := rp_lst r1
  obtain ⟨vs, h1, sv⟩ := s1.lst ea e1
  obtain ⟨ws, w, rfl, r3, r4⟩ := sv.snoc
  obtain ⟨t3, s3⟩ := s1.write ea r3
  refine ⟨s1.tyL ea, a, _, w, rfl, rfl, h1, by simp, ?_⟩
  rw [List.dropLast_concat]
  exact p _ _ _ _ _ (t1.trans t3) s3 (r4.step s1 t3) q1
theorem q_reverse (ho : QE bk X o f) (hbase : attributeBase o "reverse" X.env (eval o X.env) = eval o X.env := by rfl) (hline : (apos.endLine == cpos.line) = true := by rfl) : QE bk X (.Call (.Attribute o "reverse" apos) [] [] cpos) (pReverse f) := by
  obtain ⟨ta, pa, wa⟩ := ho.ex
  refine ⟨_, pe_bm0 PySem.F.plainAttrs_list PySem.F.slot_list_reverse PySem.F.type_list_reverse mt_reverse pa hbase hline, fun E M ρ S σ H Q Q' R q p => ?_⟩
  refine wa E M ρ S σ H _ _ R q fun M1 S1 H1 x v t1 s1 r1 q1 => ?_
  cases x <;> first | exact q1.elim | skip
  rename_i n
  obtain ⟨xs, e1, q1⟩ := onO_ex q1
  obtain ⟨a, ea, rfl⟩ := rp_lst r1
  obtain ⟨vs, h1, sv⟩ := s1.lst ea e1
  obtain ⟨t3, s3⟩ := s1.write ea sv.reverse
  exact ⟨s1.tyL ea, a, _, rfl, rfl, h1, p _ _ _ _ _ (t1.trans t3) s3 to_non q1⟩
end
end L2.P3
namespace L2.P3
open PySem PySem.Spec PyProof.Rows

/-! ### names of the built-ins -/
theorem bb_abs : bootBuiltins "abs" = some (.builtin "abs") := by decide +kernel
theorem bb_max : bootBuiltins "max" = some (.builtin "max") := by decide +kernel
theorem bb_min : bootBuiltins "min" = some (.builtin "min") := by decide +kernel
theorem bb_sum : bootBuiltins "sum" = some (.builtin "sum") := by decide +kernel
theorem bb_divmod : bootBuiltins "divmod" = some (.builtin "divmod") := by decide +kernel
theorem bb_sorted : bootBuiltins "sorted" = some (.builtin "sorted") := by decide +kernel
theorem bb_isinstance : bootBuiltins "isinstance" = some (.builtin "isinstance") := by decide +kernel
theorem bb_int : bootBuiltins "int" = some (.type "int") := by decide +kernel
theorem bb_bool : bootBuiltins "bool" = some (.type "bool") := by decide +kernel
theorem bb_str : bootBuiltins "str" = some (.type "str") := by decide +kernel
theorem bb_tuple : bootBuiltins "tuple" = some (.type "tuple") := by decide +kernel
theorem bb_list : bootBuiltins "list" = some (.type "list") := by decide +kernel

/-! ### a walk over any sequence -/
def iSeq (K : PySem.W.Frag) (tl : TE) : TI := fun σ H R => tl σ H fun x H1 => (∃ a, x = .ref a ∧ (∃ xs, SqL K H1 a xs) ∧ R (Itl K a) H1) ∨ (∃ a, x = .ref a ∧ (∃ xs, SqT K H1 a xs) ∧ R (Itt K a) H1)
theorem pi_seq {X : Cx} {tg l : Expr} {tl : TE} (hl : PE X l tl) : PI X tg l (iSeq X.K tl) := by
  refine ⟨fun pins s σ H R I h => ?_⟩
  refine thn (hl.run pins s σ H _ I h) fun v s1 ⟨x, H1, I1, r1, q1⟩ => ?_
  rcases q1 with ⟨a, rfl, ⟨xs, hq⟩, q⟩ | ⟨a, rfl, ⟨xs, hq⟩, q⟩
  all_goals cases r1
  · obtain ⟨its, rv, pl, hz⟩ := I1.list hq
    have new : s1.heap.objs.size ≤ s1.heap.objs.size := Nat.le_refl _
    exact wpAny_pyIter_list pl.isList ⟨_, [s1.heap.objs.size], _, _, H1, rfl, I1.kept (t' := s1.toks) fun _ _ z => Heap.get?_push_of_some _ z, turn_list a _, ⟨_, Heap.get?_push_size _ rfl, rfl, rfl⟩,
      fun b hb => by rw [show b = s1.heap.objs.size by simpa using hb]; exact I1.fpOk new (I1.hok.fresh new), q⟩
  · obtain ⟨its, rv, pl, hz⟩ := I1.tuple hq
    have new : s1.heap.objs.size ≤ s1.heap.objs.size := Nat.le_refl _
    exact wpAny_pyIter_tuple (show s1.heap.IsTuple a its.toArray from pl) ⟨_, [s1.heap.objs.size], _, _, H1, rfl, I1.kept (t' := s1.toks) fun _ _ z => Heap.get?_push_of_some _ z, turn_tuple a _, ⟨_, Heap.get?_push_size _ rfl, rfl, rfl⟩,
      fun b hb => by rw [show b = s1.heap.objs.size by simpa using hb]; exact I1.fpOk new (I1.hok.fresh new), q⟩
def iAny (f : PTE) : PTI := fun E ρ S R => f E ρ S fun x S1 => match x with
  | .lst n => onO S1[n]? fun xs => R ⟨xs, fun S => S[n]? = some xs⟩ S1
  | .rol xs => R ⟨xs, fun _ => True⟩ S1
  | .tup xs => R ⟨xs, fun _ => True⟩ S1
  | _ => False
instance {f : PTE} [MoE f] : MoI (iAny f) := ⟨fun h q => MoE.mo (f := f) (fun x _ q => by
  cases x <;> first | exact q.elim | exact h _ _ q | exact onO_mo (fun _ q => h _ _ q) q) q⟩
section
variable {bk : BagKind} {X : Cx} {h : PTE}
theorem itok_lst {K : PySem.W.Frag} {M1 : Am} {S1 : Store} {H1 : Hp} {n : Nat} {xs : List PV} {a : Addr} (ea : M1.m[n]? = some a) : ItOk bk K ⟨xs, fun S => S[n]? = some xs⟩ (Itl K a) M1 H1 := fun M S H k t s ck => by
  obtain ⟨ws, ehb, rsb⟩ := s.lst (t.at ea) ck
  refine ⟨fun x e => ?_, fun e => ⟨ws, SqL.of ehb, by rw [rsb.length]; simpa using e⟩⟩
  obtain ⟨w, ew, rw'⟩ := rsb.get e
  refine ⟨⟨ws, w, SqL.of ehb, ew⟩, fun v H' y => ?_⟩
  obtain ⟨rfl, y⟩ := y
  have y2 := y ws (SqL.of ehb)
  rw [ew] at y2
  obtain rfl := Option.some.inj y2
  exact ⟨.refl M _, s, rw'⟩
theorem itok_rol {K : PySem.W.Frag} {M1 : Am} {S1 : Store} {H1 : Hp} {xs : List PV} {a : Addr} {vs : List V} (s1 : Sto K bk M1 S1 H1) (fz : FzL K H1 a vs) (rs : Rps K bk.root M1 H1 xs vs) : ItOk bk K ⟨xs, fun _ => True⟩ (Itl K a) M1 H1 := fun M S H k t s ck => by
  have kp := s1.kp t
  have fz' := (kp.l a vs fz).sq
  have rs' := rs.kp kp
  refine ⟨fun x e => ?_, fun e => ⟨vs, fz', by rw [rs.length]; simpa using e⟩⟩
  obtain ⟨w, ew, rw'⟩ := rs'.get e
  refine ⟨⟨vs, w, fz', ew⟩, fun v H' y => ?_⟩
  obtain ⟨rfl, y⟩ := y
  have y2 := y vs fz'
  rw [ew] at y2
  obtain rfl := Option.some.inj y2
  exact ⟨.refl M _, s, rw'⟩
theorem itok_tup {K : PySem.W.Frag} {M1 : Am} {S1 : Store} {H1 : Hp} {xs : List PV} {a : Addr} {vs : List V} (s1 : Sto K bk M1 S1 H1) (fz : SqT K H1 a vs) (rs : Rps K bk.root M1 H1 xs vs) : ItOk bk K ⟨xs, fun _ => True⟩ (Itt K a) M1 H1 := fun M S H k t s ck => by
  have kp := s1.kp t
  have fz' := kp.t a vs fz
  have rs' := rs.kp kp
  refine ⟨fun x e => ?_, fun e => ⟨vs, fz', by rw [rs.length]; simpa using e⟩⟩
  obtain ⟨w, ew, rw'⟩ := rs'.get e
  refine ⟨⟨vs, w, fz', ew⟩, fun v H' y => ?_⟩
  obtain ⟨rfl, y⟩ := y
  have y2 := y vs fz'
  rw [ew] at y2
  obtain rfl := Option.some.inj y2
  exact ⟨.refl M _, s, rw'⟩
theorem qi_any {tg a : Expr} (ha : QE bk X a h) : QI bk X tg a (iAny h) := by
  obtain ⟨ta, pa, wa⟩ := ha.ex
  refine ⟨_, pi_seq pa, fun E M ρ S σ H R R' rel q k => ?_⟩
  refine wa E M ρ S σ H _ _ rel q fun M1 S1 H1 x v t1 s1 r1 q1 => ?_
  cases x <;> first | exact q1.elim | skip
  · obtain ⟨a, vs, rfl, fz, rs⟩ := rp_tup r1
    exact .inr ⟨a, rfl, ⟨vs, fz⟩, k M1 S1 H1 _ _ t1 s1 (itok_tup s1 fz rs) q1⟩
  · obtain ⟨xs, e1, q1⟩ := onO_ex q1
    obtain ⟨a, ea, rfl⟩ := rp_lst r1
    obtain ⟨vs, eh, rs⟩ := s1.lst ea e1
    exact .inl ⟨a, rfl, ⟨vs, SqL.of eh⟩, k M1 S1 H1 _ _ t1 s1 (itok_lst (S1 := S1) ea) q1⟩
  · obtain ⟨a, vs, rfl, fz, rs⟩ := rp_rol r1
    exact .inl ⟨a, rfl, ⟨vs, fz.sq⟩, k M1 S1 H1 _ _ t1 s1 (itok_rol s1 fz rs) q1⟩
end

/-! ### a def that promises nothing; the law -/
theorem ok_false {P : Program} {w : World} {K : PySem.W.Frag} {mg : Str → Option Value} {base : Heap} {bk : BagKind} {CX : CXT} {k : Nat} {f : Addr} {fd : FuncData} {ps : List Str} : FnOk P w K mg base CX k f fd ps (sp0 bk K fun _ _ => False) :=
  ⟨fun _ _ _ _ ⟨_, _, _, _, z⟩ => z.elim, fun _ _ _ _ _ _ _ _ _ _ _ _ _ ⟨_, _, _, _, z⟩ => z.elim⟩
instance : Mo0 (fun _ _ => False) := ⟨fun _ q => q⟩
def spLaw (K : PySem.W.Frag) : Sp := fun vs H Q _ => ∃ (a : Addr) (ns : List Int), vs = [.ref a] ∧ FzL K H a (ns.map V.int) ∧ ns.length ≤ 63 ∧ ∀ H', Q (.bl true) H'
theorem spLaw_start {K : PySem.W.Frag} {H : Hp} {a : Addr} {ns : List Int} (hO : Only H) (hS : SqL K H a (ns.map V.int)) (hl : ns.length ≤ 63) : spLaw K [.ref a] H (fun v _ => v = .bl true) fun _ _ _ => False := by
  refine ⟨a, ns, rfl, ?_, hl, fun _ => rfl⟩
  rcases hS with (h | ⟨o, h⟩) | h
  · rcases hO a with z | ⟨o, xs, z⟩
    · rw [z] at h; cases h
    · rw [z] at h; cases h
  · exact .inl ⟨o, h⟩
  · exact .inr h
/-- the maker of the law's bag -/
def spBag (bk : BagKind) (K : PySem.W.Frag) : Sp := fun vs H Q _ => ∃ (a : Addr) (ns : List Int), vs = [.ref a] ∧ FzL K H a (ns.map V.int) ∧ ns.length ≤ 63 ∧
  ∀ H' own a', (∀ b x, H b = some x → H' b = some x) → BagOk bk H' (some own) → own[bk.root]? = some a' → Q (.ref a') H'
theorem rps_of_ints {K : PySem.W.Frag} {r : Nat} {M : Am} {H : Hp} : ∀ ns : List Int, Rps K r M H (ns.map PV.int) (ns.map V.int)
  | [] => .nil
  | n :: ns => .cons to_int (rps_of_ints ns)
/-- the law: its bag is made, the rest runs over plain values -/
theorem law_top {P : Program} {w : World} {K : PySem.W.Frag} {mg : Str → Option Value} {base : Heap} {bk : BagKind} {f g : Addr} {fd gd : FuncData} {N : List Str} {k kg : Nat} {st : Stmt} {b : PTS} {gn x : Str} {p1 p2 p3 p4 p5 : Pos} {rest : List Stmt}
    (F : Fun K "law" "law" st f fd) (Sc : FnScope N ["script"] (defScope st)) (hN : 2 ≤ N.length) (hb : defBody st = .Assign [.Name x p1] (.Call (.Name gn p2) [.Name "script" p3] [] p4) p5 :: rest)
    (G : FnOk P w K mg base CX0 kg g gd ["script"] (spBag bk K)) (hk : kg ≤ k) (hm : mg gn = some (.ref g)) (kp : PySem.W.keepIn K (.ref g) = true) (bG : Binds K gd ["script"] [])
    (h1 : ∀ (cdv : Value) (A : Around) (outer : List PySem.Env) (s : Shared) (H : Hp) (E : XK), Room k (A.deeper (envOfC "law" (defScope st) s.heap.objs.size f cdv)) →
      ∃ tg, PS (cxOf CX0 P w K mg base N "law" (defScope st) f cdv A outer s H E).nox (.Assign [.Name x p1] (.Call (.Name gn p2) [.Name "script" p3] [] p4) p5) tg ∧ ∀ D σ H, (∃ v, σ[0]? = some (some v) ∧ spBag bk K [v] H (fun y H1 => D.nx (σ.set 1 (some y)) H1) E0) → tg D σ H)
    (h2 : ∀ (cdv : Value) (A : Around) (outer : List PySem.Env) (s : Shared) (H : Hp) (E : XK), Room k (A.deeper (envOfC "law" (defScope st) s.heap.objs.size f cdv)) → QSs bk (cxOf CX0 P w K mg base N "law" (defScope st) f cdv A outer s H E).nox rest b)
    (hlaw : ∀ ns : List Int, ns.length ≤ 63 → b noX { nx := fun _ _ => False, rt := fun r _ => r = .bl true } ((start0 N.length [.rol (ns.map PV.int)]).set 1 (some .bag)) []) :
    FnOk P w K mg base CX0 (k + 1) f fd ["script"] (spLaw K) := by
  refine F.ok Sc (fun vs H Q E q => ?_) (fun cdv A outer s H vs Q E hr q => ?_)
  · obtain ⟨a, ns, rfl, _⟩ := q; rfl
  · obtain ⟨a, ns, rfl, fz, hl, q⟩ := q
    obtain ⟨tg, pg, wg⟩ := h1 cdv A outer s H E hr
    obtain ⟨t, p, wt⟩ := (h2 cdv A outer s H E hr).ex
    refine ⟨tSeq tg t, by rw [hb]; exact pss_cons pg p, wg _ _ _ ⟨.ref a, rfl, a, ns, rfl, fz, hl, fun H' own a' keep bag root => ?_⟩⟩
    have fz' : FzL K H' a (ns.map V.int) := by
      rcases fz with ⟨o, z⟩ | z
      · exact .inl ⟨o, keep _ _ z⟩
      · exact .inr z
    have st0 : Sto K bk ⟨[], some own⟩ [] H' := ⟨⟨rfl, List.nodup_nil, fun n xs e => by simp at e⟩, bag, fun b h => by simp at h⟩
    have r0 : Rps K bk.root ⟨[], some own⟩ H' [.rol (ns.map PV.int)] [.ref a] := .cons (by rw [Rp]; exact ⟨a, _, rfl, fz', rps_of_ints ns⟩) .nil
    have R0 := (rel_start (N := N) st0 r0).set 1 (x := .bag) (v := .ref a') (by rw [Rp]; exact ⟨own, a', rfl, root, rfl⟩)
    refine wt noX ⟨[], some own⟩ _ [] _ H' _ _ R0 (hlaw ns hl) ⟨fun _ _ _ _ _ _ _ z => z.elim, fun M' S' H2 x v t' s' r' e => ?_, fun _ _ _ _ _ _ _ z => z.elim, fun _ _ _ _ _ _ _ z => z.elim⟩
    have e' : x = .bl true := e
    subst e'
    rw [rp_bl r']; exact q H2
end L2.P3
namespace L2.P3
open PySem PySem.Spec PyProof.Rows
/-! ### range(a, b) of numbers of any size -/
theorem turn_long {P : Program} {w : World} {K : PySem.W.Frag} {tg : Expr} (it : Addr) (lo : Int) (n : Nat) : Turn P w K tg (Itr lo n) [it] it (fun i h => IsLongIter h it (lo + (i : Nat) * 1) ((n : Int) - (i : Nat)) 1) where
  mem := by simp
  obj := fun i h st b hb => by
    obtain rfl : b = it := by simpa using hb
    refine ⟨_, st, fun v z => ?_⟩
    have z' : Data.fields _ = Data.cell v := z
    cases z'
  keep := fun i h h' st k => k it (by simp) _ st
  item := by
    intro X hP hw hK hc i pins s σ H E I hf st hg
    subst hP hw hK
    obtain ⟨f0, f1, f2, f3, f4, f5⟩ := hf it (by simp)
    refine (Walks.longrange (prog := X.prog) (w := X.w) (I.ok.hd hc) it lo 1 n).item i s _ _ hg st fun v h' tk hv st' kk => ?_
    obtain ⟨t, rfl⟩ := hv
    have I1 : Inv X pins σ H { s with heap := h', toks := tk } := I.turned (fun b o hb e => kk b o (by simpa using hb) e) f0 f1 f3 f4 f5
    exact ⟨_, rfl, go_of (s := { s with heap := h', toks := tk }) (n := "longrange_iterator") st' rfl rfl (by decide) ⟨.int (lo + i), H, I1, ⟨t, by rw [Int.mul_one]⟩, ⟨rfl, rfl⟩, st', fun b hb => (hf b hb).1⟩⟩
  done := by
    intro X hP hw hK hc i pins s σ H E I hf st hg
    subst hP hw hK
    obtain ⟨f0, f1, f2, f3, f4, f5⟩ := hf it (by simp)
    refine wpAny_pyNext_long_end (I.ok.hd hc) st (by have : n ≤ i := hg; omega) fun h' eb => ?_
    exact ⟨rfl, I.turned (t' := s.toks) (fun b o hb e => eb b o hb e) f0 f1 f3 f4 f5⟩
  self := fun _ _ _ _ _ st h => wpAny_pyIter_longiter st h
theorem range_any {X : Cx} {tg : Expr} {pins : List (Addr × Obj)} {σ : St} {H : Hp} {s : Shared} {R : It → Hp → Prop} {E : Value → Shared → Prop} {lo hi : Int} {t u v : Tok} {tk : Nat} (I : Inv X pins σ H s)
    (q : R (Itr lo (hi - lo).toNat) H) : wpAny (model X.prog X.w) X.A (pyIter (.ref s.heap.objs.size)) (PIE X pins σ tg R) E { s with heap := s.heap.push { cls := .type "range", data := .fields #[.int lo t, .int hi u, .int 1 v] }, toks := tk } := by
  have I1 : Inv X pins σ H { s with heap := s.heap.push { cls := .type "range", data := .fields #[.int lo t, .int hi u, .int 1 v] }, toks := tk } := I.kept fun _ _ z => Heap.get?_push_of_some _ z
  have hn : (((hi - lo).toNat : Nat) : Int) - ((0 : Nat) : Int) = Builtin.Range.rangeSize lo hi 1 := by rw [rangeSize_one]; split <;> omega
  have h0 : lo + ((0 : Nat) : Int) * 1 = lo := by simp
  have fp : ∀ b ∈ [(s.heap.push { cls := .type "range", data := .fields #[.int lo t, .int hi u, .int 1 v] }).objs.size], FpOk X pins H b := fun b hb => by
    obtain rfl : b = (s.heap.push { cls := .type "range", data := .fields #[.int lo t, .int hi u, .int 1 v] }).objs.size := by simpa using hb
    exact I1.fpOk (Nat.le_refl _) (I1.hok.fresh (Nat.le_refl _))
  cases hs : Builtin.Range.small lo hi 1 with
  | true =>
    refine wpAny_pyIter_range (IsRange.new ..) hs ⟨_, [_], _, _, H, rfl, I1.kept (t' := tk) fun _ _ z => Heap.get?_push_of_some _ z, turn_range _ lo (hi - lo).toNat, ?_, fp, q⟩
    show IsRangeIter _ _ (lo + ((0 : Nat) : Int) * 1) ((((hi - lo).toNat : Nat) : Int) - ((0 : Nat) : Int)) 1
    rw [h0, hn]
    exact Heap.get?_push_size _ rfl
  | false =>
    refine wpAny_pyIter_longrange (IsRange.new ..) hs ⟨_, [_], _, _, H, rfl, I1.kept (t' := tk) fun _ _ z => Heap.get?_push_of_some _ z, turn_long _ lo (hi - lo).toNat, ?_, fp, q⟩
    show IsLongIter _ _ (lo + ((0 : Nat) : Int) * 1) ((((hi - lo).toNat : Nat) : Int) - ((0 : Nat) : Int)) 1
    rw [h0, hn]
    exact Heap.get?_push_size _ rfl
def tRange2 (ta : TA) : TI := fun σ H R => ta σ H fun vs H1 => ∃ i j : Int, vs = [.int i, .int j] ∧ R (Itr i (j - i).toNat) H1
theorem pi_range2A {X : Cx} {tg a b : Expr} {ta : TA} {p pos : Pos} (hg : Gl X "range") (hm : X.mg "range" = none) (ha : PA X [a, b] ta) (hs : starEach [a, b] X.env = [(false, eval a X.env), (false, eval b X.env)] := by rfl) (hs2 : starEach [b] X.env = [(false, eval b X.env)] := by rfl) :
    PI X tg (.Call (.Name "range" p) [a, b] [] pos) (tRange2 ta) := by
  refine ⟨fun pins s σ H R I h => ?_⟩
  refine Call_ (ld_blt I hg hm boot_range (PyProof.Rows.callWith_type1 (thn (ha.run pos pins s σ H _ I h) fun us s1 ⟨vs, H1, I1, r1, q1⟩ => ?_) (by rw [hs, hs2]) (by rw [hs2]; rfl)))
  obtain ⟨i, j, rfl, q⟩ := q1
  obtain ⟨u, w', rfl, ⟨t, rfl⟩, ⟨t', rfl⟩⟩ := vals2 r1
  exact call_range_2 (range_any I1 q)
def iRange (f g : PTE) : PTI := fun E ρ S R => f E ρ S fun x S1 => g E ρ S1 fun y S2 => match x, y with
  | .int i, .int j => R ⟨(List.range (j - i).toNat).map fun (k : Nat) => PV.int (i + k), fun _ => True⟩ S2
  | _, _ => False
instance {f g : PTE} [MoE f] [MoE g] : MoI (iRange f g) := ⟨fun h q => MoE.mo (f := f) (fun x _ q => MoE.mo (f := g) (fun y _ q => by cases x <;> cases y <;> first | exact q.elim | exact h _ _ q) q) q⟩
theorem qi_range {bk : BagKind} {X : Cx} {tg a b : Expr} {p pos : Pos} {h h2 : PTE} (hg : Gl X "range") (hm : X.mg "range" = none) (ha : QE bk X a h) (hb : QE bk X b h2)
    (hs : starEach [a, b] X.env = [(false, eval a X.env), (false, eval b X.env)] := by rfl) (hs2 : starEach [b] X.env = [(false, eval b X.env)] := by rfl) (he : starEach [a, b] X.env = (false, eval a X.env) :: starEach [b] X.env := by rfl) (he2 : starEach (b :: []) X.env = (false, eval b X.env) :: starEach [] X.env := by rfl) :
    QI bk X tg (.Call (.Name "range" p) [a, b] [] pos) (iRange h h2) := by
  obtain ⟨ta, pa, wa⟩ := ha.ex
  obtain ⟨tb, pb, wb⟩ := hb.ex
  refine ⟨_, pi_range2A hg hm (pa_cons pa (pa_cons pb pa_nil he2) he) hs hs2, fun E M ρ S σ H R R' rel q k => ?_⟩
  refine wa E M ρ S σ H _ _ rel q fun M1 S1 H1 x v t1 s1 r1 q1 => ?_
  refine wb E M1 ρ S1 σ H1 _ _ (rel.step t1 s1) q1 fun M2 S2 H2 y w t2 s2 r2 q2 => ?_
  cases x <;> cases y <;> first | exact q2.elim | skip
  obtain rfl := rp_int r1
  obtain rfl := rp_int r2
  exact ⟨_, _, rfl, k M2 S2 H2 _ _ (t1.trans t2) s2 itok_range q2⟩
end L2.P3
namespace L2.P3
open PySem PySem.Spec PyProof.Rows

/-! ### tools for the plain side -/
theorem v_get (i : Nat) (E : XW) (ρ : PEnv) (S : Store) (Q : PQ) (x : PV) (h : ρ[i]? = some (some x)) : pVar i E ρ S Q = Q x S := by unfold pVar; rw [h]
theorem atI_z {α : Type} {x : α} {xs : List α} : atI (x :: xs) 0 = some x := by unfold atI ixN; simp
theorem atI_get? {α : Type} {xs : List α} {i : Int} (h : 0 ≤ i) : atI xs i = xs[i.toNat]? := by
  unfold atI ixN
  rw [if_pos h]
  by_cases hm : i < xs.length
  · rw [if_pos hm]; rfl
  · rw [if_neg hm]
    exact (List.getElem?_eq_none (by omega)).symm
theorem atI_1 {α : Type} {x y : α} {xs : List α} : atI (x :: y :: xs) 1 = some y := by rw [atI_get? (by decide)]; rfl
theorem atI_2 {α : Type} {x y z : α} {xs : List α} : atI (x :: y :: z :: xs) 2 = some z := by rw [atI_get? (by decide)]; rfl
theorem atI_3 {α : Type} {x y z a : α} {xs : List α} : atI (x :: y :: z :: a :: xs) 3 = some a := by rw [atI_get? (by decide)]; rfl
theorem atI_4 {α : Type} {x y z a b : α} {xs : List α} : atI (x :: y :: z :: a :: b :: xs) 4 = some b := by rw [atI_get? (by decide)]; rfl
theorem atI_5 {α : Type} {x y z a b c : α} {xs : List α} : atI (x :: y :: z :: a :: b :: c :: xs) 5 = some c := by rw [atI_get? (by decide)]; rfl
theorem atI_6 {α : Type} {x y z a b c d : α} {xs : List α} : atI (x :: y :: z :: a :: b :: c :: d :: xs) 6 = some d := by rw [atI_get? (by decide)]; rfl
theorem setI_0 {x v : PV} {xs : List PV} : setI (x :: xs) 0 v = some (v :: xs) := by unfold setI ixN; simp
theorem setI_get? {xs : List PV} {i : Int} {v : PV} (h : 0 ≤ i) (h2 : i < xs.length) : setI xs i v = some (xs.set i.toNat v) := by unfold setI ixN; simp [h, h2]
theorem setI_1 {x y v : PV} {xs : List PV} : setI (x :: y :: xs) 1 v = some (x :: v :: xs) := by rw [setI_get? (by decide) (by simp; omega)]; rfl
theorem setI_2 {x y z v : PV} {xs : List PV} : setI (x :: y :: z :: xs) 2 v = some (x :: y :: v :: xs) := by rw [setI_get? (by decide) (by simp; omega)]; rfl
theorem setI_3 {x y z a v : PV} {xs : List PV} : setI (x :: y :: z :: a :: xs) 3 v = some (x :: y :: z :: v :: xs) := by rw [setI_get? (by decide) (by simp; omega)]; rfl
theorem setI_4 {x y z a b v : PV} {xs : List PV} : setI (x :: y :: z :: a :: b :: xs) 4 v = some (x :: y :: z :: a :: v :: xs) := by rw [setI_get? (by decide) (by simp; omega)]; rfl
theorem setI_5 {x y z a b c v : PV} {xs : List PV} : setI (x :: y :: z :: a :: b :: c :: xs) 5 v = some (x :: y :: z :: a :: b :: v :: xs) := by rw [setI_get? (by decide) (by simp; omega)]; rfl
/-- one turn of a comprehension -/
def lcStep (g : PTG) (tt : PTT) (te : PTE) (E : XW) (ρ0 : PEnv) (x : PV) (S : Store) (Qk : Option PV → Store → Prop) : Prop :=
  g E x ρ0 S fun ρ1 S1 => tt E ρ1 S1 fun b S2 => Br b (te E ρ1 S2 fun y S3 => Qk (some y) S3) (Qk none S2)
/-- a comprehension whose parts leave the store as it is -/
theorem pLcL_pure {chk : Store → Prop} {g : PTG} {tt : PTT} {te : PTE} {E : XW} {ρ0 : PEnv} {Q : PQ} {S : Store} (f : PV → Option PV) (hc : ∀ acc, chk (S ++ [acc])) :
    ∀ (xs : List PV) (acc : List PV), (∀ x ∈ xs, ∀ acc Qk, Qk (f x) (S ++ [acc]) → lcStep g tt te E ρ0 x (S ++ [acc]) Qk) → acc.length + xs.length ≤ 16777216 → Q (.lst S.length) (S ++ [acc ++ xs.filterMap f]) →
      pLcL chk g tt te E ρ0 S.length Q xs (S ++ [acc])
  | [], acc, _, _, q => ⟨hc acc, by simpa using q⟩
  | x :: xs, acc, h, hl, q => by
    refine ⟨hc acc, h x List.mem_cons_self acc (fun o S' => match o with
      | some y => onO S'[S.length]? fun a => a.length < 16777216 ∧ pLcL chk g tt te E ρ0 S.length Q xs (S'.set S.length (a ++ [y]))
      | none => pLcL chk g tt te E ρ0 S.length Q xs S') ?_⟩
    simp only [List.length_cons] at hl
    cases e : f x with
    | none =>
      rw [List.filterMap_cons_none e] at q
      exact pLcL_pure f hc xs acc (fun y hy => h y (List.mem_cons_of_mem _ hy)) (by omega) q
    | some y =>
      rw [List.filterMap_cons_some e] at q
      refine onO_of (x := acc) (by simp) ⟨by omega, ?_⟩
      have e2 : (S ++ [acc]).set S.length (acc ++ [y]) = S ++ [acc ++ [y]] := by simp
      rw [e2]
      exact pLcL_pure f hc xs (acc ++ [y]) (fun z hz => h z (List.mem_cons_of_mem _ hz)) (by simp; omega) (by simpa using q)
/-- a for loop by what holds between its turns -/
theorem pForL_inv {chk : Store → Prop} {g : PTG} {b : PTS} [MoG g] [MoS b] {E : XW} {D : PEnds} (I : Nat → PEnv → Store → Prop) :
    ∀ (xs : List PV) (k : Nat) {ρ : PEnv} {S : Store}, I k ρ S → (∀ j ρ S, I j ρ S → chk S) → (∀ j x ρ S, xs[j]? = some x → I (k + j) ρ S → g E x ρ S fun ρ1 S1 => b E { D with nx := I (k + j + 1), ct := I (k + j + 1), bk := D.nx } ρ1 S1) →
      (∀ ρ S, I (k + xs.length) ρ S → D.nx ρ S) → pForL chk g b E D xs ρ S
  | [], k, ρ, S, h0, hc, _, hd => ⟨hc _ _ _ h0, hd _ _ h0⟩
  | x :: xs, k, ρ, S, h0, hc, hs, hd => by
    refine ⟨hc _ _ _ h0, MoG.mo (g := g) (fun ρ1 S1 q => ?_) (hs 0 x ρ S rfl h0)⟩
    refine MoS.mo (f := b) ?_ q
    have nxt : ∀ ρ S, I (k + 0 + 1) ρ S → pForL chk g b E D xs ρ S := fun ρ S h => by
      have e1 : ∀ j, k + (j + 1) = k + 1 + j := fun j => by omega
      refine pForL_inv I xs (k + 1) h hc (fun j y ρ S e hI => ?_) (fun ρ S h => ?_)
      · have := hs (j + 1) y ρ S (by simpa using e) (by rw [e1]; exact hI)
        rw [e1] at this
        exact this
      · refine hd ρ S ?_
        rw [List.length_cons, e1]
        exact h
    exact ⟨nxt, fun _ _ z => z, fun _ _ z => z, nxt⟩

/-! ### draws -/
def F_draw : PF0 := fun xs Q => match xs with
  | [.bag, .int m] => (0 < m ∧ m ≤ 1000000000000000000000000000000000000000000000000000000000000000000000000000000000000000000000000000000000000000000000000) ∧ ∀ r, 0 ≤ r → r < m → Q (.int r)
  | _ => False
instance : Mo0 F_draw := ⟨fun h q => by
  unfold F_draw at q ⊢
  split at q
  · exact ⟨q.1, fun r h0 h1 => h _ (q.2 r h0 h1)⟩
  · exact q.elim⟩
end L2.P3
namespace L2.P3
open PySem PySem.Spec PyProof.Rows
theorem pForL_range {g : PTG} {b : PTS} [MoG g] [MoS b] {E : XW} {D : PEnds} {n : Nat} {f : Nat → PV} {ρ : PEnv} {S : Store} (I : Nat → PEnv → Store → Prop) (h0 : I 0 ρ S)
    (hs : ∀ j ρ S, j < n → I j ρ S → g E (f j) ρ S fun ρ1 S1 => b E { D with nx := I (j + 1), ct := I (j + 1), bk := D.nx } ρ1 S1) (hd : ∀ ρ S, I n ρ S → D.nx ρ S) :
    pForL (fun _ => True) g b E D ((List.range n).map f) ρ S := by
  refine pForL_inv I _ 0 h0 (fun _ _ _ _ => trivial) (fun j x ρ S e hI => ?_) (fun ρ S h => hd ρ S (by simpa using h))
  rw [Nat.zero_add] at hI ⊢
  have hj : j < n := by
    have := (List.getElem?_eq_some_iff.mp e).1
    simpa using this
  have e2 : f j = x := by simpa [hj] using e
  rw [← e2]
  exact hs j ρ S hj hI
/-- a list, each of whose items a loop meets -/
theorem pForL_mem {chk : Store → Prop} {g : PTG} {b : PTS} [MoG g] [MoS b] {E : XW} {D : PEnds} {xs : List PV} {ρ : PEnv} {S : Store} (I : PEnv → Store → Prop) (h0 : I ρ S) (hc : ∀ ρ S, I ρ S → chk S)
    (hs : ∀ x ρ S, x ∈ xs → I ρ S → g E x ρ S fun ρ1 S1 => b E { D with nx := I, ct := I, bk := D.nx } ρ1 S1) (hd : ∀ ρ S, I ρ S → D.nx ρ S) : pForL chk g b E D xs ρ S :=
  pForL_inv (fun _ => I) xs 0 h0 (fun _ => hc) (fun _ x ρ S e hI => hs x ρ S (List.mem_of_getElem? e) hI) hd
end L2.P3
namespace L2.P3
open PySem PySem.Spec PyProof.Rows
mutual
/-- data of a depth: no lists; texts where st tells so -/
def dat (st : Bool) : Nat → PV → Bool
  | _, .non => true
  | _, .bl _ => true
  | _, .int _ => true
  | _, .str x => st && decide (x.length ≤ 16777216)
  | n + 1, .tup xs => decide (xs.length ≤ 16777216) && dats st n xs
  | _, _ => false
def dats (st : Bool) : Nat → List PV → Bool
  | _, [] => true
  | n, x :: xs => dat st n x && dats st n xs
end
theorem dats_mem {st : Bool} : ∀ {n : Nat} {xs : List PV}, dats st n xs = true ↔ ∀ x ∈ xs, dat st n x = true
  | n, [] => by simp [dats]
  | n, x :: xs => by simp [dats, dats_mem (n := n) (xs := xs)]
mutual
theorem dat_below {st : Bool} : ∀ {n : Nat} {x : PV}, dat st n x = true → below 0 x = true
  | n, .non, _ => rfl
  | n, .bl _, _ => rfl
  | n, .int _, _ => rfl
  | n, .str _, _ => rfl
  | n + 1, .tup xs, h => by
    simp only [dat, Bool.and_eq_true] at h
    unfold below
    exact dats_below h.2
  | 0, .tup xs, h => by simp [dat] at h
  | n, .lst _, h => by cases n <;> simp [dat] at h
  | n, .rol _, h => by cases n <;> simp [dat] at h
  | n, .bag, h => by cases n <;> simp [dat] at h
theorem dats_below {st : Bool} : ∀ {n : Nat} {xs : List PV}, dats st n xs = true → belows 0 xs = true
  | n, [], _ => rfl
  | n, x :: xs, h => by
    simp only [dats, Bool.and_eq_true] at h
    simp only [belows, Bool.and_eq_true]
    exact ⟨dat_below h.1, dats_below h.2⟩
end
/-- the law's own ==, asked of two that are the same -/
def F_same (st : Bool) (d : Nat) : PF0 := fun xs Q => match xs with
  | [a, b] => a = b ∧ dat st d a = true ∧ Q (.bl true)
  | _ => False
instance {st : Bool} {d : Nat} : Mo0 (F_same st d) := ⟨fun h q => by
  unfold F_same at q ⊢
  split at q
  · exact ⟨q.1, q.2.1, h _ q.2.2⟩
  · exact q.elim⟩
end L2.P3
namespace L2.P3
open PySem PySem.Spec PyProof.Rows
theorem s_seq {f g : PTS} [MoS f] {E : XW} {D : PEnds} {ρ : PEnv} {S : Store} (I : PEnv → Store → Prop) (h1 : f E { D with nx := I } ρ S) (h2 : ∀ ρ S, I ρ S → g E D ρ S) : pSeq f g E D ρ S := by
  unfold pSeq
  refine MoS.mo (f := f) ?_ h1
  exact ⟨h2, fun _ _ z => z, fun _ _ z => z, fun _ _ z => z⟩
theorem divOk_of {m : Int} (h0 : 0 < m) (h : m < 2 ^ 8000) : DivOk m := by
  refine ⟨by omega, ?_⟩
  have : m.natAbs < 2 ^ 8000 := by omega
  have := PySem.Flt.log2_lt_of (by decide) this
  omega
theorem mulOk_r {i j : Int} (h1 : -(2 ^ 64) < j) (h2 : j < 2 ^ 64) : MulOk i j := .of_right (intBits_le_64 h1 h2)
theorem mulOk_l {i j : Int} (h1 : -(2 ^ 64) < i) (h2 : i < 2 ^ 64) : MulOk i j := .of_left (intBits_le_64 h1 h2)
theorem at_ints {cells : List Int} {i : Int} (h : 0 ≤ i) (h2 : i < cells.length) : ∃ z : Int, atI (cells.map PV.int) i = some (.int z) := by
  refine ⟨cells[i.toNat]'(by omega), ?_⟩
  rw [atI_get? h]; simp
theorem fmod_in (x : Int) {m : Int} (hm : 0 < m) : 0 ≤ x.fmod m ∧ x.fmod m < m := by
  rw [Int.fmod_eq_emod_of_nonneg x (by omega)]
  exact ⟨Int.emod_nonneg x (by omega), Int.emod_lt_of_pos x hm⟩
end L2.P3
namespace L2.P3
open PySem PySem.Spec PyProof.Rows
section
variable {P : Program} {w : World} {K : PySem.W.Frag} {mg : Str → Option Value} {base : Heap} {bk : BagKind} {k : Nat} {f : Addr} {fd : FuncData} {ps : List Str}
/-- the maker of the bag, by its plain run -/
theorem bag_of {F : PFS} {good : PV → Store → Prop} (G : FnOk P w K mg base CX0 k f fd ["script"] (spS bk K F)) (h : ∀ (ns : List Int) (Q : PQ), ns.length ≤ 63 → (∀ r S', good r S' → Q r S') → F [.rol (ns.map PV.int)] [] Q)
    (hg : ∀ M' S' H' r v, M'.bag = none → Sto K bk M' S' H' → Rp K bk.root M' H' r v → good r S' → ∃ own a', v = .ref a' ∧ BagOk bk H' (some own) ∧ own[bk.root]? = some a') : FnOk P w K mg base CX0 k f fd ["script"] (spBag bk K) :=
  G.imp fun vs H Q E ⟨a, ns, e, fz, hl, q⟩ => by
    subst e
    refine ⟨⟨[], none⟩, [], [.rol (ns.map PV.int)], ⟨⟨rfl, List.nodup_nil, fun n xs e => by simp at e⟩, trivial, fun b h => by simp at h⟩, .cons (by rw [Rp]; exact ⟨a, _, rfl, fz, rps_of_ints ns⟩) .nil, h ns _ hl ?_⟩
    intro r S' gd M' H' v t s' r'
    obtain ⟨own, a', rfl, bag, root⟩ := hg M' S' H' r v t.bag s' r' gd
    exact q H' own a' (fun b x e => t.keep b x (by simp) (by simp [own?]) e) bag root
/-- a draw, by its plain run over the bag's own lists -/
theorem draw_of {X : PFS} (good : Store → Prop) (G : FnOk P w K mg base CX0 k f fd ps (spS bk K X))
    (dec : ∀ own cs, bk.shape own cs → cs.length = own.length → ∃ S, good S ∧ S.length = own.length ∧ ∀ (n : Nat) (xs : List PV), S[n]? = some xs → ∃ c : List V, cs[n]? = some c ∧ ∀ H, Rps K bk.root ⟨own, none⟩ H xs c)
    (enc : ∀ (own : List Addr) S, good S → S.length = own.length → ∃ cs : List (List V), bk.shape own cs ∧ cs.length = own.length ∧ ∀ (n : Nat) (xs : List PV) (c : List V) (H : Hp), S[n]? = some xs → Rps K bk.root ⟨own, none⟩ H xs c → cs[n]? = some c)
    (h : ∀ S (m : Int) (Q : PQ), good S → 0 < m → m < 2 ^ 8000 → (∀ r S', 0 ≤ r → r < m → good S' → S'.length = S.length → Q (.int r) S') → X [.lst bk.root, .int m] S Q) : FnOk P w K mg base CX0 k f fd ps (sp0 bk K F_draw) :=
  G.imp fun vs H Q E ⟨bag, xs, s, r, q⟩ => by
    unfold F_draw at q
    split at q
    case h_2 => exact q.elim
    rename_i m
    obtain ⟨v, u, rfl, r1, r2⟩ := rps2 r
    obtain rfl := rp_int r2
    rw [Rp] at r1
    obtain ⟨own, a, e1, e2, rfl⟩ := r1
    simp only at e1
    subst e1
    obtain ⟨nd, lt, cs, sh, hl, at_⟩ := s.bag
    obtain ⟨S, gd, hS, hd⟩ := dec own cs sh hl
    refine ⟨⟨own, none⟩, S, [.lst bk.root, .int m], ⟨⟨hS.symm, nd, fun n xs en => ?_⟩, trivial, fun b hb => by simp [own?]⟩, .cons (to_lst e2) (.cons to_int .nil), h S m _ gd q.1.1 (Int.lt_of_le_of_lt q.1.2 (by decide +kernel)) ?_⟩
    · have hn : n < own.length := by rw [← hS]; exact (List.getElem?_eq_some_iff.mp en).1
      obtain ⟨c, ec, rc⟩ := hd n xs en
      obtain ⟨c', ec', hH⟩ := at_ n own[n] (List.getElem?_eq_getElem hn)
      rw [ec] at ec'
      obtain rfl := Option.some.inj ec'
      exact ⟨own[n], c, List.getElem?_eq_getElem hn, hH, rc H⟩
    · intro x S' h0 h1 gd' hl' M' H' v t s' r'
      obtain ⟨l, el⟩ := t.pre
      have hl0 : l = [] := by
        have := s'.st.len
        rw [el, hl', hS] at this
        simpa using this
      rw [hl0, List.append_nil] at el
      have eM : M' = ⟨own, none⟩ := by
        cases M'
        have e3 := t.bag
        simp only at el e3
        rw [el, e3]
      subst eM
      obtain ⟨cs', sh', hlc, hc⟩ := enc own S' gd' (hl'.trans hS)
      have bag' : BagOk bk H' (some own) := by
        refine ⟨nd, lt, cs', sh', hlc, fun n b eb => ?_⟩
        have hn : n < S'.length := by rw [hl', hS]; exact (List.getElem?_eq_some_iff.mp eb).1
        obtain ⟨b', c, e4, e5, e6⟩ := s'.st.at_ n S'[n] (List.getElem?_eq_getElem hn)
        have e4' : own[n]? = some b' := e4
        rw [eb] at e4'
        obtain rfl := Option.some.inj e4'
        exact ⟨c, hc n _ c H' (List.getElem?_eq_getElem hn) e6, e5⟩
      refine q.2 x h0 h1 H' v ⟨⟨[], by simp⟩, rfl, fun b y _ hb e => t.keep b y hb (by simp [own?]) e, t.live, fun b h => by simp at h⟩ ⟨⟨rfl, List.nodup_nil, fun n xs e => by simp at e⟩, bag', fun b h => by simp at h⟩ ?_
      rw [rp_int r']; exact to_int
end
end L2.P3
namespace L2.P3
open PySem PySem.Spec PyProof.Rows
/-! ### sizes -/
def Sz (n : Nat) (x : Int) : Prop := x.natAbs < 2 ^ n
theorem Sz.mono {a b : Nat} {x : Int} (h : Sz a x) (l : a ≤ b) : Sz b x := Nat.lt_of_lt_of_le h (Nat.pow_le_pow_right (by decide) l)
theorem Sz.mul {a b : Nat} {i j : Int} (h : Sz a i) (h' : Sz b j) : Sz (a + b) (i * j) := wide_lt h h'
theorem two_pow_succ' (n : Nat) : 2 ^ (n + 1) = 2 ^ n + 2 ^ n := by rw [Nat.pow_succ]; omega
theorem Sz.add {a b c : Nat} {i j : Int} (h : Sz a i) (h' : Sz b j) (l1 : a ≤ c) (l2 : b ≤ c) : Sz (c + 1) (i + j) := by
  have h1 := h.mono l1
  have h2 := h'.mono l2
  unfold Sz at *
  rw [two_pow_succ']
  omega
theorem Sz.sub {a b c : Nat} {i j : Int} (h : Sz a i) (h' : Sz b j) (l1 : a ≤ c) (l2 : b ≤ c) : Sz (c + 1) (i - j) := by
  have h1 := h.mono l1
  have h2 := h'.mono l2
  unfold Sz at *
  rw [two_pow_succ']
  omega
theorem Sz.neg {a : Nat} {i : Int} (h : Sz a i) : Sz a (-i) := by unfold Sz at *; omega
theorem sz_pos (n : Nat) : 0 < 2 ^ n := Nat.pow_pos (by decide)
theorem mulOk_sz {a b : Nat} {i j : Int} (h : Sz a i) (h' : Sz b j) (l : a + b ≤ 900000) : MulOk i j :=
  (wide_mul (a := a + 1) (b := b + 1) (h.mono (Nat.le_succ a)) (h'.mono (Nat.le_succ b)) (Nat.succ_pos a) (Nat.succ_pos b) (by omega)).ok
theorem divOk_sz {a : Nat} {j : Int} (h : Sz a j) (l : a ≤ 8999) (h0 : j ≠ 0) : DivOk j := by
  have : j.natAbs < 2 ^ (a + 1) := h.mono (Nat.le_succ a)
  exact ⟨h0, Nat.lt_of_lt_of_le (PySem.Flt.log2_lt_of (Nat.succ_pos a) this) (by omega)⟩
theorem sz_pow10 (k : Nat) : Sz (4 * k + 1) ((10 : Int) ^ k) := by
  unfold Sz
  have h : (10 : Int) ^ k = ((10 ^ k : Nat) : Int) := by norm_cast
  rw [h, Int.natAbs_natCast]
  have h2 : 10 ^ k ≤ 16 ^ k := Nat.pow_le_pow_left (by decide) k
  have h3 : (16 : Nat) ^ k = 2 ^ (4 * k) := by rw [Nat.pow_mul]
  rw [two_pow_succ', ← h3]
  have := Nat.pow_pos (n := k) (show 0 < 16 by decide)
  omega
theorem sz_le {n : Nat} {x b : Int} (h0 : -b ≤ x) (h1 : x ≤ b) (hb : b.natAbs < 2 ^ n) : Sz n x := by
  unfold Sz
  omega
theorem pow10_pos (k : Nat) : (0 : Int) < 10 ^ k := Int.pow_pos (by decide)
theorem Sz.ediv {a : Nat} {i j : Int} (h : Sz a i) : Sz a (i / j) := Nat.lt_of_le_of_lt (Int.natAbs_ediv_le_natAbs i j) h
theorem fdiv_pos (i : Int) {j : Int} (h : 0 < j) : i.fdiv j = i / j := Int.fdiv_eq_ediv_of_nonneg i (Int.le_of_lt h)
theorem fmod_pos (i : Int) {j : Int} (h : 0 < j) : i.fmod j = i % j := Int.fmod_eq_emod_of_nonneg i (Int.le_of_lt h)
theorem pow10_le {a b : Nat} (h : a ≤ b) : (10 : Int) ^ a ≤ 10 ^ b := by
  have e : ∀ k : Nat, (10 : Int) ^ k = ((10 ^ k : Nat) : Int) := fun k => by norm_cast
  rw [e, e]
  exact Int.ofNat_le.mpr (Nat.pow_le_pow_right (by decide) h)
/-! ### a tuple made of a comprehension -/
theorem tup_lc {i : PTI} {g : PTG} {tt : PTT} {te : PTE} {ws : List Nat} {E : XW} {ρ : PEnv} {S : Store} {Q : PQ} (f : PV → Option PV) (items : List PV) (chk : Store → Prop) (hc : ∀ acc, chk (S ++ [acc]))
    (hi : ∀ R : PIter → Store → Prop, R ⟨items, chk⟩ S → i E ρ S R) (hs : ∀ x ∈ items, ∀ acc Qk, Qk (f x) (S ++ [acc]) → lcStep g tt te E (wipeP ρ ws) x (S ++ [acc]) Qk) (hl : items.length ≤ 16777216)
    (hb : belows S.length (items.filterMap f) = true) (q : Q (.tup (items.filterMap f)) S) : pScope (pCl oTuple (pACons (pLc i g tt te ws) pANil)) E ρ S Q := by
  refine hi _ ?_
  refine pLcL_pure f hc items [] hs (by simpa using hl) ?_
  refine onO_of (x := items.filterMap f) (by simp) ⟨?_, ⟨[items.filterMap f], by simp⟩, q⟩
  unfold below; exact hb
theorem fm_ints (f : PV → Option PV) (g : Int → PV) (h : ∀ i, f (.int i) = some (g i)) : ∀ ns : List Int, (ns.map PV.int).filterMap f = ns.map g
  | [] => rfl
  | n :: ns => by rw [List.map_cons, List.filterMap_cons_some (h n), fm_ints f g h ns]; rfl
theorem belows_mem : ∀ {n : Nat} {xs : List PV}, belows n xs = true ↔ ∀ x ∈ xs, below n x = true
  | n, [] => by simp [belows]
  | n, x :: xs => by simp [belows, belows_mem (n := n) (xs := xs)]
end L2.P3
namespace L2.P3
open PySem PySem.Spec PyProof.Rows
/-! ### fractions in lowest terms -/
def fr (x : Rat) : PV := .tup [.int x.num, .int (x.den : Int)]
def RS (n : Nat) (x : Rat) : Prop := Sz n x.num ∧ Sz n (x.den : Int)
theorem RS.mono {a b : Nat} {x : Rat} (h : RS a x) (l : a ≤ b) : RS b x := ⟨h.1.mono l, h.2.mono l⟩
theorem den_pos' (x : Rat) : (0 : Int) < x.den := Int.natCast_pos.mpr x.den_pos
theorem frac_pos {a b : Int} (h : 0 < b) : a / ((Int.gcd a b : Nat) : Int) = (Rat.divInt a b).num ∧ b / ((Int.gcd a b : Nat) : Int) = ((Rat.divInt a b).den : Int) := by
  rw [Rat.num_divInt, Rat.den_divInt, if_neg (by omega), Int.sign_eq_one_of_pos h, Int.one_mul, Int.gcd_comm]
  refine ⟨rfl, ?_⟩
  rw [Int.natCast_ediv, Int.natAbs_of_nonneg (Int.le_of_lt h)]
theorem frac_neg {a b : Int} (h : b < 0) : a.fdiv (-((Int.gcd a b : Nat) : Int)) = (Rat.divInt a b).num ∧ b.fdiv (-((Int.gcd a b : Nat) : Int)) = ((Rat.divInt a b).den : Int) := by
  have hg : 0 < ((Int.gcd a b : Nat) : Int) := Int.natCast_pos.mpr (Int.gcd_pos_iff.mpr (.inr (by omega)))
  have e : ∀ x : Int, x.fdiv (-((Int.gcd a b : Nat) : Int)) = (-x) / ((Int.gcd a b : Nat) : Int) := fun x => by
    have := Int.neg_fdiv_neg (-x) ((Int.gcd a b : Nat) : Int)
    rw [Int.neg_neg] at this
    rw [this, fdiv_pos _ hg]
  rw [e, e, Rat.num_divInt, Rat.den_divInt, if_neg (by omega), Int.sign_eq_neg_one_of_neg h, Int.gcd_comm a b]
  refine ⟨by rw [Int.neg_one_mul], ?_⟩
  rw [Int.natCast_ediv, Int.ofNat_natAbs_of_nonpos (Int.le_of_lt h)]
theorem frac_neg0 {a b : Int} (h : b < 0) : a.fdiv (0 - ((Int.gcd a b : Nat) : Int)) = (Rat.divInt a b).num ∧ b.fdiv (0 - ((Int.gcd a b : Nat) : Int)) = ((Rat.divInt a b).den : Int) := by
  rw [Int.zero_sub]; exact frac_neg h
theorem gcd_pos' {a b : Int} (h : b ≠ 0) : 0 < ((Int.gcd a b : Nat) : Int) := Int.natCast_pos.mpr (Int.gcd_pos_iff.mpr (.inr h))
theorem sz_gcd {a b : Int} {n : Nat} (h : b ≠ 0) (s : Sz n b) : Sz n ((Int.gcd a b : Nat) : Int) := by
  unfold Sz at *
  rw [Int.natAbs_natCast]
  have : Int.gcd a b ≤ b.natAbs := Nat.le_of_dvd (by omega) (Nat.gcd_dvd_right _ _)
  omega
theorem sz_divInt_num {a b : Int} {n : Nat} (s : Sz n a) : Sz n (Rat.divInt a b).num := by
  rw [Rat.num_divInt]
  refine Sz.ediv ?_
  rcases Int.lt_trichotomy b 0 with h | h | h
  · rw [Int.sign_eq_neg_one_of_neg h, Int.neg_one_mul]; exact s.neg
  · subst h; simp only [Int.sign_zero, Int.zero_mul]; exact sz_pos n
  · rw [Int.sign_eq_one_of_pos h, Int.one_mul]; exact s
theorem sz_divInt_den {a b : Int} {n : Nat} (hb : b ≠ 0) (s : Sz n b) : Sz n ((Rat.divInt a b).den : Int) := by
  rw [Rat.den_divInt, if_neg hb]
  unfold Sz at *
  rw [Int.natAbs_natCast]
  exact Nat.lt_of_le_of_lt (Nat.div_le_self _ _) s
theorem rs_divInt {a b : Int} {n : Nat} (hb : b ≠ 0) (s1 : Sz n a) (s2 : Sz n b) : RS n (Rat.divInt a b) := ⟨sz_divInt_num s1, sz_divInt_den hb s2⟩
theorem rat_add_eq (x y : Rat) : x + y = Rat.divInt (x.num * y.den + y.num * x.den) (x.den * y.den) := by
  have h := Rat.divInt_add_divInt x.num y.num (d₁ := x.den) (d₂ := y.den) (by have := den_pos' x; omega) (by have := den_pos' y; omega)
  rw [Rat.num_divInt_den, Rat.num_divInt_den] at h
  exact h
theorem rat_sub_eq (x y : Rat) : x - y = Rat.divInt (x.num * y.den - y.num * x.den) (x.den * y.den) := by
  have h := Rat.divInt_sub_divInt x.num y.num (d₁ := x.den) (d₂ := y.den) (by have := den_pos' x; omega) (by have := den_pos' y; omega)
  rw [Rat.num_divInt_den, Rat.num_divInt_den] at h
  exact h
theorem rat_mul_eq (x y : Rat) : x * y = Rat.divInt (x.num * y.num) (x.den * y.den) := by
  have h := Rat.divInt_mul_divInt x.num y.num (d₁ := x.den) (d₂ := y.den)
  rw [Rat.num_divInt_den, Rat.num_divInt_den] at h
  exact h
theorem rat_div_eq (x y : Rat) : x / y = Rat.divInt (x.num * y.den) (x.den * y.num) := by
  rw [Rat.div_def, Rat.inv_def]
  have h := Rat.divInt_mul_divInt x.num y.den (d₁ := x.den) (d₂ := y.num)
  rw [Rat.num_divInt_den] at h
  exact h
theorem rs_nums {a b : Nat} {x y : Rat} (hx : RS a x) (hy : RS b y) : Sz (a + b) (x.den * y.den) ∧ Sz (a + b) (x.num * y.num) ∧ Sz (a + b) (x.num * y.den) ∧ Sz (a + b) (y.num * x.den) ∧ Sz (a + b) (x.den * y.num) :=
  ⟨hx.2.mul hy.2, hx.1.mul hy.1, hx.1.mul hy.2, by rw [Nat.add_comm]; exact hy.1.mul hx.2, hx.2.mul hy.1⟩
theorem RS.add {a b : Nat} {x y : Rat} (hx : RS a x) (hy : RS b y) : RS (a + b + 1) (x + y) := by
  have h := rs_nums hx hy
  rw [rat_add_eq]
  exact rs_divInt (Int.ne_of_gt (Int.mul_pos (den_pos' x) (den_pos' y))) (h.2.2.1.add h.2.2.2.1 (Nat.le_refl _) (Nat.le_refl _)) (h.1.mono (Nat.le_succ _))
theorem RS.sub {a b : Nat} {x y : Rat} (hx : RS a x) (hy : RS b y) : RS (a + b + 1) (x - y) := by
  have h := rs_nums hx hy
  rw [rat_sub_eq]
  exact rs_divInt (Int.ne_of_gt (Int.mul_pos (den_pos' x) (den_pos' y))) (h.2.2.1.sub h.2.2.2.1 (Nat.le_refl _) (Nat.le_refl _)) (h.1.mono (Nat.le_succ _))
theorem RS.mul {a b : Nat} {x y : Rat} (hx : RS a x) (hy : RS b y) : RS (a + b) (x * y) := by
  have h := rs_nums hx hy
  rw [rat_mul_eq]
  exact rs_divInt (Int.ne_of_gt (Int.mul_pos (den_pos' x) (den_pos' y))) h.2.1 h.1
theorem num_ne {x : Rat} (h : x ≠ 0) : x.num ≠ 0 := fun e => h (Rat.num_eq_zero.mp e)
theorem RS.div {a b : Nat} {x y : Rat} (hx : RS a x) (hy : RS b y) (h0 : y ≠ 0) : RS (a + b) (x / y) := by
  have h := rs_nums hx hy
  rw [rat_div_eq]
  exact rs_divInt (Int.mul_ne_zero (Int.ne_of_gt (den_pos' x)) (num_ne h0)) h.2.2.1 h.2.2.2.2
theorem sz_one {n : Nat} (h : 1 ≤ n) : Sz n (1 : Int) := Sz.mono (a := 1) (by unfold Sz; decide) h
theorem rs_int {n : Nat} {i : Int} (h : Sz n i) (hn : 1 ≤ n) : RS n (i : Rat) := ⟨by rw [Rat.num_intCast]; exact h, by rw [Rat.den_intCast]; exact sz_one hn⟩
theorem fr_int (i : Int) : fr (i : Rat) = .tup [.int i, .int 1] := by
  unfold fr; rw [Rat.num_intCast, Rat.den_intCast]; rfl
theorem rs_neg {n : Nat} {x : Rat} (h : RS n x) : RS n (-x) := by
  refine ⟨?_, ?_⟩
  · rw [Rat.neg_num]; exact h.1.neg
  · rw [Rat.neg_den]; exact h.2
theorem mulOk_fr {a b : Nat} {x y : Rat} (hx : RS a x) (hy : RS b y) (h : a + b ≤ 900000) : MulOk x.num y.den ∧ MulOk y.num x.den ∧ MulOk x.den y.den ∧ MulOk x.num y.num ∧ MulOk x.den y.num :=
  ⟨mulOk_sz hx.1 hy.2 h, mulOk_sz hy.1 hx.2 (by omega), mulOk_sz hx.2 hy.2 h, mulOk_sz hx.1 hy.1 h, mulOk_sz hx.2 hy.1 h⟩
theorem dat_fr {st : Bool} {n : Nat} {x : Rat} : dat st (n + 1) (fr x) = true := by
  unfold fr dat
  rw [Bool.and_eq_true]
  exact ⟨rfl, by cases n <;> rfl⟩
theorem below_fr {n : Nat} {x : Rat} : below n (fr x) = true := rfl
theorem gcd_step {x y : Int} (hx : 0 ≤ x) (hy : 0 ≤ y) : Int.gcd y (x % y) = Int.gcd x y := by
  unfold Int.gcd
  rw [Int.natAbs_emod_of_nonneg hx, Nat.gcd_comm x.natAbs, Nat.gcd_rec y.natAbs x.natAbs, Nat.gcd_comm]
theorem euclid_half {x y : Nat} (hxy : y < x) (hy : 0 < y) : y * (x % y) * 2 ≤ x * y := by
  have e1 : 2 * (x % y) ≤ x := by
    have := Nat.mod_add_div x y
    have hm := Nat.mod_lt x hy
    have h3 : 1 ≤ x / y := Nat.div_pos (by omega) hy
    have : y * 1 ≤ y * (x / y) := Nat.mul_le_mul_left _ h3
    omega
  calc y * (x % y) * 2 = (2 * (x % y)) * y := by rw [Nat.mul_comm y, Nat.mul_comm (x % y * y) 2, ← Nat.mul_assoc]
    _ ≤ x * y := Nat.mul_le_mul_right _ e1
/-- how far Euclid's way has gone -/
def Eucl (B : Nat) (j x y : Nat) : Prop := (j = 0 ∧ y = B) ∨ (1 ≤ j ∧ y < x ∧ x * y * 2 ^ (j - 1) ≤ B * B)
theorem Eucl.next {B j x y : Nat} (h : Eucl B j x y) (hy : 0 < y) : Eucl B (j + 1) y (x % y) := by
  refine .inr ⟨by omega, Nat.mod_lt x hy, ?_⟩
  rcases h with ⟨rfl, rfl⟩ | ⟨h1, hxy, hp⟩
  · have := Nat.mod_lt x hy
    have : y * (x % y) ≤ y * y := Nat.mul_le_mul_left _ (by omega)
    simpa using this
  · have e2 : 2 ^ (j + 1 - 1) = 2 * 2 ^ (j - 1) := by
      have : j + 1 - 1 = (j - 1) + 1 := by omega
      rw [this, Nat.pow_succ, Nat.mul_comm]
    rw [e2, ← Nat.mul_assoc]
    exact Nat.le_trans (Nat.mul_le_mul_right _ (euclid_half hxy hy)) hp
theorem Eucl.done {B j x y n : Nat} (h : Eucl B j x y) (hb : B < 2 ^ n) (hj : 2 * n + 1 ≤ j) : y = 0 := by
  rcases h with ⟨h, _⟩ | ⟨_, hxy, hp⟩
  · omega
  · rcases Nat.eq_zero_or_pos y with h | h
    · exact h
    · exfalso
      have h1 : 1 ≤ x * y := Nat.mul_pos (by omega) h
      have h2 : 1 * 2 ^ (j - 1) ≤ x * y * 2 ^ (j - 1) := Nat.mul_le_mul_right _ h1
      have h3 : 2 ^ (2 * n) ≤ 2 ^ (j - 1) := Nat.pow_le_pow_right (by decide) (by omega)
      have h4 : B * B < 2 ^ n * 2 ^ n := Nat.mul_lt_mul_of_le_of_lt (Nat.le_of_lt hb) hb (Nat.pow_pos (by decide))
      have h5 : 2 ^ (2 * n) = 2 ^ n * 2 ^ n := by rw [← Nat.pow_add]; congr 1; omega
      omega
/-! ### draws -/
def AllIn (lo hi : Int) : List PV → Prop
  | [] => True
  | .int i :: xs => lo ≤ i ∧ i ≤ hi ∧ AllIn lo hi xs
  | _ => False
theorem AllIn.mem {lo hi : Int} : ∀ {xs : List PV}, AllIn lo hi xs → ∀ x ∈ xs, ∃ i, x = .int i ∧ lo ≤ i ∧ i ≤ hi
  | .int i :: xs, h, x, hx => by
    rcases List.mem_cons.mp hx with rfl | hx
    · exact ⟨i, rfl, h.1, h.2.1⟩
    · exact h.2.2.mem x hx
  | [], _, x, hx => by cases hx
theorem draw_spec (m : Int) (Q : PV → Prop) (h0 : 0 < m) (h1 : m ≤ 10 ^ 120) (q : ∀ r, 0 ≤ r → r < m → Q (.int r)) : F_draw [.bag, .int m] Q := ⟨⟨h0, Int.le_trans h1 (by decide)⟩, q⟩
theorem same_of {st : Bool} {d : Nat} {a b : PV} {Q : PV → Prop} (e : a = b) (h : dat st d a = true) (q : Q (.bl true)) : F_same st d [a, b] Q := ⟨e, h, q⟩
/-- a loop of multiplications by ten -/
theorem pow_succ' (j : Nat) : (10 : Int) * 10 ^ j = 10 ^ (j + 1) := by rw [Int.pow_succ, Int.mul_comm]
end L2.P3
namespace L2.P3
open PySem PySem.Spec PyProof.Rows
theorem gT2 {E : XW} {i j : Nat} {x y : PV} {ρ : PEnv} {S : Store} {Q : PEnv → Store → Prop} (q : Q ((ρ.set i (some x)).set j (some y)) S) : gT 2 (gsCons (gN i) (gsCons (gN j) gsNil)) E (.tup [x, y]) ρ S Q := ⟨rfl, q⟩
theorem gT3 {E : XW} {i j k : Nat} {x y z : PV} {ρ : PEnv} {S : Store} {Q : PEnv → Store → Prop} (q : Q (((ρ.set i (some x)).set j (some y)).set k (some z)) S) : gT 3 (gsCons (gN i) (gsCons (gN j) (gsCons (gN k) gsNil))) E (.tup [x, y, z]) ρ S Q := ⟨rfl, q⟩
theorem get_new {S : Store} {x : List PV} : (S ++ [x])[S.length]? = some x := by simp
theorem get_old {S : Store} {x y : List PV} {n : Nat} (h : S[n]? = some x) : (S ++ [y])[n]? = some x := by
  rw [List.getElem?_append_left (List.getElem?_eq_some_iff.mp h).1]; exact h
/-! ### floors and prints -/
theorem floor_eq {x : Rat} {y : Int} (h1 : (y : Rat) ≤ x) (h2 : x < ((y + 1 : Int) : Rat)) : x.floor = y := by
  have a := Rat.le_floor_iff.mpr h1
  have b := Rat.floor_lt_iff.mpr h2
  omega
theorem le_divInt {a b y : Int} (hb : 0 < b) : (y : Rat) ≤ Rat.divInt a b ↔ y * b ≤ a := by
  rw [← Rat.not_lt, Rat.divInt_eq_div, Rat.div_lt_iff (Rat.intCast_pos.mpr hb), ← Rat.intCast_mul, Rat.intCast_lt_intCast]
  omega
theorem divInt_lt {a b y : Int} (hb : 0 < b) : Rat.divInt a b < (y : Rat) ↔ a < y * b := by
  rw [Rat.divInt_eq_div, Rat.div_lt_iff (Rat.intCast_pos.mpr hb), ← Rat.intCast_mul, Rat.intCast_lt_intCast]
theorem floor_divInt (a : Int) {b : Int} (hb : 0 < b) : (Rat.divInt a b).floor = a / b :=
  floor_eq ((le_divInt hb).mpr (Int.ediv_mul_le a (by omega))) ((divInt_lt hb).mpr (Int.lt_ediv_add_one_mul_self a hb))
theorem half_divInt (a : Int) {b : Int} (hb : 0 < b) : Rat.divInt a b + 1 / 2 = Rat.divInt (2 * a + b) (2 * b) := by
  have e : (1 / 2 : Rat) = Rat.divInt 1 2 := by rw [Rat.divInt_eq_div]; rfl
  rw [e, Rat.divInt_add_divInt _ _ (by omega) (by decide), Int.mul_comm a, Int.one_mul, Int.mul_comm b]
theorem floor_half (a : Int) {b : Int} (hb : 0 < b) : (Rat.divInt a b + 1 / 2).floor = if 2 * (a - a / b * b) < b then a / b else a / b + 1 := by
  rw [half_divInt a hb, floor_divInt _ (by omega)]
  have h := Int.mul_ediv_add_emod a b
  have h0 := Int.emod_nonneg a (show b ≠ 0 by omega)
  have h1 := Int.emod_lt_of_pos a hb
  have e : a / b * b = b * (a / b) := Int.mul_comm _ _
  generalize hy : a / b = y at *
  generalize hr : a % b = r at *
  split
  · rename_i h2
    refine Int.ediv_eq_iff_of_pos ?_ |>.mpr ⟨?_, ?_⟩
    · omega
    · rw [Int.mul_comm]; have : 2 * b * y = 2 * (b * y) := Int.mul_assoc _ _ _; omega
    · rw [Int.mul_comm y]; have : 2 * b * y = 2 * (b * y) := Int.mul_assoc _ _ _; omega
  · rename_i h2
    refine Int.ediv_eq_iff_of_pos ?_ |>.mpr ⟨?_, ?_⟩
    · omega
    · rw [Int.add_mul, Int.mul_comm y]; have : 2 * b * y = 2 * (b * y) := Int.mul_assoc _ _ _; omega
    · rw [Int.add_mul, Int.mul_comm y]; have : 2 * b * y = 2 * (b * y) := Int.mul_assoc _ _ _; omega
theorem den_two (a : Int) {b : Int} (hb : 0 < b) : (Rat.divInt a b).den = 2 ↔ 2 * (a - a / b * b) = b := by
  have h := Int.mul_ediv_add_emod a b
  have h0 := Int.emod_nonneg a (show b ≠ 0 by omega)
  have h1 := Int.emod_lt_of_pos a hb
  have e : a / b * b = b * (a / b) := Int.mul_comm _ _
  generalize hy : a / b = y at *
  generalize hr : a % b = r at *
  constructor
  · intro hd
    have e1 := Rat.num_divInt_den (Rat.divInt a b)
    have co := (Rat.divInt a b).reduced
    rw [hd] at e1 co
    have e2 := (Rat.divInt_eq_divInt_iff (by decide) (by omega)).mp e1
    generalize (Rat.divInt a b).num = n at *
    have odd : n % 2 = 1 := by
      rcases Int.emod_two_eq n with h | h
      · exfalso
        have : 2 ∣ n.natAbs := by omega
        have := Nat.Coprime.eq_one_of_dvd (Nat.Coprime.symm co) this
        omega
      · exact h
    obtain ⟨k, hk⟩ : ∃ k, n = 2 * k + 1 := ⟨n / 2, by omega⟩
    subst hk
    have e3 : (2 * k + 1) * b = 2 * (k * b) + b := by rw [Int.add_mul, Int.mul_assoc]; omega
    have e4 : b * y = y * b := Int.mul_comm _ _
    have e5 : (k - y) * b = k * b - y * b := Int.sub_mul _ _ _
    have : k - y = 0 := by
      rcases Int.lt_trichotomy (k - y) 0 with z | z | z
      · have : (k - y) * b ≤ (-1) * b := Int.mul_le_mul_of_nonneg_right (by omega) (by omega)
        omega
      · exact z
      · have : 1 * b ≤ (k - y) * b := Int.mul_le_mul_of_nonneg_right (by omega) (by omega)
        omega
    rw [this] at e5
    omega
  · intro h2
    have e1 : a = (2 * y + 1) * r := by
      have : b = 2 * r := by omega
      subst this
      have e6 : (2 * y + 1) * r = 2 * (y * r) + r := by rw [Int.add_mul, Int.mul_assoc]; omega
      have e7 : 2 * r * y = 2 * (y * r) := by rw [Int.mul_assoc, Int.mul_comm r]
      omega
    have e2 : b = 2 * r := by omega
    rw [e1, e2, Rat.divInt_mul_right (by omega), Rat.den_divInt, if_neg (by decide)]
    have : Int.gcd 2 (2 * y + 1) = 1 := by
      have : Nat.gcd 2 (2 * y + 1).natAbs = 1 := by
        rw [Nat.gcd_rec]
        have : (2 * y + 1).natAbs % 2 = 1 := by omega
        rw [this]; exact Nat.gcd_one_left 2
      exact this
    rw [this]; rfl
theorem half_eq : (1 / 2 : Rat) = Rat.divInt 1 2 := by rw [Rat.divInt_eq_div]; rfl
theorem rs_half : RS 2 (1 / 2 : Rat) := by rw [half_eq]; exact rs_divInt (by decide) (by unfold Sz; decide) (by unfold Sz; decide)
theorem fr_half : PV.tup [.int 1, .int 2] = fr (1 / 2) := by
  unfold fr
  rw [half_eq, Rat.num_divInt, Rat.den_divInt]; rfl
/-- the print of L in a mode -/
def prn (L : Rat) (mode : Str) : Int :=
  if mode = "down" then L.floor else if mode = "even" ∧ L.den = 2 ∧ (L + 1 / 2).floor % 2 = 1 then (L + 1 / 2).floor - 1 else (L + 1 / 2).floor
def IsMode (m : Str) : Prop := m = "up" ∨ m = "even" ∨ m = "down"
theorem prn_int (a : Int) {b : Int} (hb : 0 < b) {mode : Str} (hm : IsMode mode) : prn (Rat.divInt a b) mode =
    if mode = "down" ∨ 2 * (a - a / b * b) < b then a / b else if b < 2 * (a - a / b * b) ∨ mode = "up" then a / b + 1 else a / b + a / b % 2 := by
  unfold prn
  rw [floor_divInt a hb, floor_half a hb]
  have hd := den_two a hb
  generalize 2 * (a - a / b * b) = r2 at *
  rcases hm with rfl | rfl | rfl
  · simp only [show ¬ (("up" : Str) = "down") by decide, show ¬ (("up" : Str) = "even") by decide, if_false, false_and, false_or]
    by_cases h : r2 < b <;> simp [h]
  · simp only [show ¬ (("even" : Str) = "down") by decide, show ¬ (("even" : Str) = "up") by decide, if_false, true_and, false_or, or_false]
    by_cases h : r2 < b
    · simp only [h, if_true]
      have : ¬ (Rat.divInt a b).den = 2 := fun e => by have := hd.mp e; omega
      simp [this]
    · simp only [h, if_false]
      by_cases h2 : b < r2
      · have : ¬ (Rat.divInt a b).den = 2 := fun e => by have := hd.mp e; omega
        simp [this, h2]
      · have : (Rat.divInt a b).den = 2 := hd.mpr (by omega)
        simp only [this, h2, true_and, if_false]
        split <;> omega
  · simp
theorem prn_int2 (a : Int) {b : Int} (hb : 0 < b) {mode : Str} : prn (Rat.divInt a b) mode =
    if mode = "down" then a / b else if mode = "even" ∧ (2 * a + b) % (2 * b) = 0 ∧ (2 * a + b) / (2 * b) % 2 = 1 then (2 * a + b) / (2 * b) - 1 else (2 * a + b) / (2 * b) := by
  have hd := den_two a hb
  have h : (Rat.divInt a b).den = 2 ↔ (2 * a + b) % (2 * b) = 0 := by
    rw [hd]
    have h := Int.mul_ediv_add_emod a b
    have h0 := Int.emod_nonneg a (show b ≠ 0 by omega)
    have h1 := Int.emod_lt_of_pos a hb
    have e : a / b * b = b * (a / b) := Int.mul_comm _ _
    generalize a / b = y at *
    generalize a % b = r at *
    have e2 : 2 * a + b = (2 * r + b) + y * (2 * b) := by
      have : y * (2 * b) = 2 * (b * y) := by rw [Int.mul_left_comm, Int.mul_comm y]
      omega
    rw [e2, Int.add_mul_emod_self_right]
    constructor
    · intro h; have : 2 * r + b = 2 * b := by omega
      rw [this]; exact Int.emod_self
    · intro h
      rcases Int.lt_or_le (2 * r + b) (2 * b) with z | z
      · rw [Int.emod_eq_of_lt (by omega) z] at h; omega
      · have e3 : 2 * r + b = (2 * r - b) + 1 * (2 * b) := by omega
        rw [e3, Int.add_mul_emod_self_right, Int.emod_eq_of_lt (by omega) (by omega)] at h
        omega
  unfold prn
  rw [floor_divInt a hb, half_divInt a hb, floor_divInt _ (by omega)]
  simp only [h]
theorem sz_floor {n : Nat} {x : Rat} (h : RS n x) : Sz n x.floor := by rw [Rat.floor_def]; exact h.1.ediv
theorem sz_prn {n : Nat} {x : Rat} (h : RS n x) (mode : Str) : Sz (n + 4) (prn x mode) := by
  unfold prn
  have h2 : Sz (n + 3) (x + 1 / 2).floor := sz_floor (h.add rs_half)
  split
  · exact (sz_floor h).mono (by omega)
  · split
    · exact h2.sub (sz_one (by omega)) (Nat.le_refl _) (Nat.le_refl _)
    · exact h2.mono (by omega)
theorem gcd_one_right' (k : Int) : Int.gcd k 1 = 1 := by
  have : Nat.gcd k.natAbs 1 = 1 := Nat.gcd_one_right _
  exact this
theorem fr_one_over {k : Int} (h : 0 < k) : PV.tup [.int 1, .int k] = fr (Rat.divInt 1 k) := by
  unfold fr
  rw [Rat.num_divInt, Rat.den_divInt, if_neg (by omega), gcd_one_right', Int.sign_eq_one_of_pos h, Nat.div_one, Int.natAbs_of_nonneg (Int.le_of_lt h)]
  rfl
theorem mul_one_over (i : Int) (k : Int) : (i : Rat) * Rat.divInt 1 k = Rat.divInt i k := by
  rw [Rat.divInt_eq_div, Rat.divInt_eq_div, Rat.div_def, Rat.div_def, Rat.intCast_one, Rat.one_mul]
theorem prn_law {x : Rat} {k : Int} : Rat.divInt (x.num * k) x.den = x * (k : Rat) := by
  rw [rat_mul_eq, Rat.num_intCast, Rat.den_intCast, Int.natCast_one, Int.mul_one]
end L2.P3
namespace L2.P3
open PySem PySem.Spec PyProof.Rows
/-! ### a, b, c = x, y, z -/
def pPar3 (i j l : Nat) (f : PTA) : PTS := fun E D ρ S => f E ρ S fun xs S1 => match xs with
  | [x, y, z] => D.nx (((ρ.set i (some x)).set j (some y)).set l (some z)) S1
  | _ => False
instance {i j l : Nat} {f : PTA} [MoA f] : MoS (pPar3 i j l f) := ⟨fun h q => MoA.mo (f := f) (fun xs _ q => by
  split at q
  · exact h.nx _ _ q
  · exact q.elim) q⟩
section
variable {bk : BagKind} {X : Cx}
theorem q_par3 {i j l : Nat} {x y z : Str} {a b c : Expr} {f : PTA} {px py pz pt pos : Pos} {kt k2 pt2} (hc : X.calm = true) (hN : X.N.Nodup) (hi : X.N[i]? = some x) (hj : X.N[j]? = some y) (hl : X.N[l]? = some z) (hij : i ≠ j) (hil : i ≠ l) (hjl : j ≠ l)
    (hx : X.env.scope.names.lookup x = some .local) (hy : X.env.scope.names.lookup y = some .local) (hz : X.env.scope.names.lookup z = some .local) (ha : QA bk X [a, b, c] f)
    (hw : swappedStores [.Tuple [.Name x px, .Name y py, .Name z pz] kt pt] (.Tuple [a, b, c] k2 pt2) X.env = pure (some [x, y, z]))
    (hs : swapsWithSole [.Tuple [.Name x px, .Name y py, .Name z pz] kt pt] (.Tuple [a, b, c] k2 pt2) pos.line X.env = pure false := by rfl) :
    QS bk X (.Assign [.Tuple [.Name x px, .Name y py, .Name z pz] kt pt] (.Tuple [a, b, c] k2 pt2) pos) (pPar3 i j l f) := by
  obtain ⟨ta, pa, wa⟩ := ha.ex
  refine ⟨_, ps_par3 hc hN hi hj hl hij hil hjl hx hy hz pa hw hs, fun E M ρ S σ H D D' R q p => ?_⟩
  refine wa E M ρ S σ H _ _ R q fun M1 S1 H1 xs vs t1 s1 r1 q1 => ?_
  split at q1
  · simp only [Rps] at r1
    obtain ⟨u, _, rfl, r2, v, _, rfl, r3, w, _, rfl, r4, rfl⟩ := r1
    exact ⟨u, v, w, rfl, p.nx M1 _ S1 _ H1 t1 ((((R.step t1 s1).set i r2).set j r3).set l r4) q1⟩
  · exact q1.elim
end
end L2.P3
namespace L2.P3
open PySem PySem.Spec PyProof.Rows
/-! ### [elt for a in .. for b in ..] -/
def pLcI (chk : Store → Prop) (g : PTG) (tt : PTT) (te : PTE) (E : XW) (ρ0 : PEnv) (n : Nat) (K : Store → Prop) : List PV → Store → Prop
  | [], S => chk S ∧ K S
  | x :: xs, S => chk S ∧ g E x ρ0 S fun ρ1 S1 => tt E ρ1 S1 fun b S2 =>
    Br b (te E ρ1 S2 fun y S3 => onO S3[n]? fun acc => acc.length < 16777216 ∧ pLcI chk g tt te E ρ0 n K xs (S3.set n (acc ++ [y]))) (pLcI chk g tt te E ρ0 n K xs S2)
def pLcO (chk : Store → Prop) (g : PTG) (tt : PTT) (i1 : PTI) (g1 : PTG) (tt1 : PTT) (te : PTE) (ws1 : List Nat) (E : XW) (ρ0 : PEnv) (n : Nat) (Q : PQ) : List PV → Store → Prop
  | [], S => chk S ∧ Q (.lst n) S
  | x :: xs, S => chk S ∧ g E x ρ0 S fun ρ1 S1 => tt E ρ1 S1 fun b S2 =>
    Br b (i1 E ρ1 S2 fun it S3 => pLcI it.chk g1 tt1 te E (wipeP ρ1 ws1) n (fun S' => pLcO chk g tt i1 g1 tt1 te ws1 E ρ0 n Q xs S') it.items S3) (pLcO chk g tt i1 g1 tt1 te ws1 E ρ0 n Q xs S2)
def pLc2 (i : PTI) (g : PTG) (tt : PTT) (i1 : PTI) (g1 : PTG) (tt1 : PTT) (te : PTE) (ws ws1 : List Nat) : PTE := fun E ρ S Q => i E ρ S fun it S1 => pLcO it.chk g tt i1 g1 tt1 te ws1 E (wipeP ρ ws) S1.length Q it.items (S1 ++ [[]])
theorem pLcI_mo {chk : Store → Prop} {g : PTG} {tt : PTT} {te : PTE} [MoG g] [MoT tt] [MoE te] {E : XW} {ρ0 : PEnv} {n : Nat} {K K' : Store → Prop} (h : ∀ S, K S → K' S) : ∀ {xs : List PV} {S : Store}, pLcI chk g tt te E ρ0 n K xs S → pLcI chk g tt te E ρ0 n K' xs S
  | [], S, q => ⟨q.1, h _ q.2⟩
  | x :: xs, S, q => by
    unfold pLcI at q ⊢
    refine ⟨q.1, MoG.mo (g := g) (fun _ _ q => MoT.mo (f := tt) (fun b _ q => ?_) q) q.2⟩
    cases b with
    | false => exact pLcI_mo h q
    | true => exact MoE.mo (f := te) (fun _ _ q => onO_mo (fun _ q => ⟨q.1, pLcI_mo h q.2⟩) q) q
theorem pLcO_mo {chk : Store → Prop} {g : PTG} {tt : PTT} {i1 : PTI} {g1 : PTG} {tt1 : PTT} {te : PTE} {ws1 : List Nat} [MoG g] [MoT tt] [MoI i1] [MoG g1] [MoT tt1] [MoE te] {E : XW} {ρ0 : PEnv} {n : Nat} {Q Q' : PQ} (h : ∀ x S, Q x S → Q' x S) : ∀ {xs : List PV} {S : Store}, pLcO chk g tt i1 g1 tt1 te ws1 E ρ0 n Q xs S → pLcO chk g tt i1 g1 tt1 te ws1 E ρ0 n Q' xs S
  | [], S, q => ⟨q.1, h _ _ q.2⟩
  | x :: xs, S, q => by
    unfold pLcO at q ⊢
    refine ⟨q.1, MoG.mo (g := g) (fun _ _ q => MoT.mo (f := tt) (fun b _ q => ?_) q) q.2⟩
    cases b with
    | false => exact pLcO_mo h q
    | true => exact MoI.mo (f := i1) (fun _ _ q => pLcI_mo (fun _ q => pLcO_mo h q) q) q
instance {i : PTI} {g : PTG} {tt : PTT} {i1 : PTI} {g1 : PTG} {tt1 : PTT} {te : PTE} {ws ws1 : List Nat} [MoI i] [MoG g] [MoT tt] [MoI i1] [MoG g1] [MoT tt1] [MoE te] : MoE (pLc2 i g tt i1 g1 tt1 te ws ws1) := ⟨fun h q => MoI.mo (f := i) (fun _ _ q => pLcO_mo h q) q⟩
section
variable {bk : BagKind} {X : Cx}
def tI (bk : BagKind) (K : PySem.W.Frag) (f : PTI) : TI := fun σ H R' => ∃ (E : XW) (M : Am) (ρ : PEnv) (S : Store) (R : PIter → Store → Prop), Rel K bk M ρ S σ H ∧ f E ρ S R ∧ ∀ M' S' H' it J, Step M H M' H' → Sto K bk M' S' H' → ItOk bk K it J M' H' → R it S' → R' J H'
theorem QI.canon {tg e : Expr} {f : PTI} (h : QI bk X tg e f) : PI X tg e (tI bk X.K f) := by
  obtain ⟨t, p, w⟩ := h.ex
  exact ⟨fun pins s σ H R' I ⟨E, M, ρ, S, R, Rl, q, k⟩ => p.run pins s σ H R' I (w E M ρ S σ H R R' Rl q k)⟩
theorem lc2_sound {wi : TI} {g : TG} {tt : TT} {wi1 : TI} {g1 : TG} {tt1 : TT} {te : TE} {ws ws1 : List Nat} {i i1 : PTI} {pg pg1 : PTG} {pt pt1 : PTT} {pe : PTE}
    (hi : ∀ (E : XW) M ρ S σ H R R', Rel X.K bk M ρ S σ H → i E ρ S R → (∀ M' S' H' it J, Step M H M' H' → Sto X.K bk M' S' H' → ItOk bk X.K it J M' H' → R it S' → R' J H') → wi σ H R')
    (hg : ∀ (E : XW) M ρ S σ0 H x v (Q : PEnv → Store → Prop) (Q' : St → Hp → Prop), Rel X.K bk M ρ S (wipe σ0 ws) H → Rp X.K bk.root M H x v → pg E x ρ S Q →
      (∀ M' ρ' S' σ' H', wipe σ' ws = wipe σ0 ws → Step M H M' H' → Rel X.K bk M' ρ' S' σ' H' → Q ρ' S' → Q' σ' H') → g v (wipe σ0 ws) H Q')
    (ht : ∀ (E : XW) M ρ S σ H Q Q', Rel X.K bk M ρ S σ H → pt E ρ S Q → PostT bk X.K M H Q Q' → tt σ H Q')
    (hi1 : ∀ (E : XW) M ρ S σ H R R', Rel X.K bk M ρ S σ H → i1 E ρ S R → (∀ M' S' H' it J, Step M H M' H' → Sto X.K bk M' S' H' → ItOk bk X.K it J M' H' → R it S' → R' J H') → wi1 σ H R')
    (hg1 : ∀ (E : XW) M ρ S σ0 H x v (Q : PEnv → Store → Prop) (Q' : St → Hp → Prop), Rel X.K bk M ρ S (wipe σ0 ws1) H → Rp X.K bk.root M H x v → pg1 E x ρ S Q →
      (∀ M' ρ' S' σ' H', wipe σ' ws1 = wipe σ0 ws1 → Step M H M' H' → Rel X.K bk M' ρ' S' σ' H' → Q ρ' S' → Q' σ' H') → g1 v (wipe σ0 ws1) H Q')
    (ht1 : ∀ (E : XW) M ρ S σ H Q Q', Rel X.K bk M ρ S σ H → pt1 E ρ S Q → PostT bk X.K M H Q Q' → tt1 σ H Q')
    (he : ∀ (E : XW) M ρ S σ H Q Q', Rel X.K bk M ρ S σ H → pe E ρ S Q → Post bk X.K M H Q Q' → te σ H Q')
    (E : XW) (M : Am) (ρ : PEnv) (S : Store) (σ : St) (H : Hp) (Q : PQ) (Q' : VK) (R : Rel X.K bk M ρ S σ H) (q : pLc2 i pg pt i1 pg1 pt1 pe ws ws1 E ρ S Q) (p : Post bk X.K M H Q Q') : tLc2 wi g tt wi1 g1 tt1 te ws ws1 σ H Q' := by
  refine hi E M ρ S σ H _ _ R q fun M1 S1 H1 it J t1 s1 ok q1 => ?_
  intro D hD
  have s2 : Sto X.K bk ⟨M1.m ++ [D], M1.bag⟩ (S1 ++ [[]]) (upd H1 D (.lst [])) := s1.push hD .nil
  have t2 : Step M1 H1 ⟨M1.m ++ [D], M1.bag⟩ (upd H1 D (.lst [])) := Step.push hD
  have eD : ∀ {M3 : Am} {H3 : Hp}, Step ⟨M1.m ++ [D], M1.bag⟩ (upd H1 D (.lst [])) M3 H3 → M3.m[S1.length]? = some D := fun {M3 H3} t => by
    obtain ⟨l, e⟩ := t.pre
    rw [e, ← s1.st.len]; simp
  let L := pLcO it.chk pg pt i1 pg1 pt1 pe ws1 E (wipeP ρ ws) S1.length Q
  refine ⟨fun k j H2 => j = it.items.length - k ∧ k ≤ it.items.length ∧ ∃ M2 S2, Step ⟨M1.m ++ [D], M1.bag⟩ (upd H1 D (.lst [])) M2 H2 ∧ Sto X.K bk M2 S2 H2 ∧ L (it.items.drop k) S2,
    ⟨_, rfl, Nat.zero_le _, _, _, .refl _ _, s2, q1⟩, ?_⟩
  rintro k j H2 ⟨rfl, hk, M2, S2, t3, s3, q2⟩
  have t13 := t1.trans (t2.trans t3)
  by_cases hlt : k < it.items.length
  · rw [List.drop_eq_getElem_cons hlt] at q2
    have q2 : pLcO it.chk pg pt i1 pg1 pt1 pe ws1 E (wipeP ρ ws) S1.length Q (it.items[k] :: it.items.drop (k + 1)) S2 := q2
    unfold pLcO at q2
    obtain ⟨hck, q2⟩ := q2
    obtain ⟨hgo, hy⟩ := (ok M2 S2 H2 k (t2.trans t3) s3 hck).1 it.items[k] (by simp [hlt])
    refine .inr ⟨hgo, fun H' => ∃ M3 S3, Step ⟨M1.m ++ [D], M1.bag⟩ (upd H1 D (.lst [])) M3 H' ∧ Sto X.K bk M3 S3 H' ∧ L (it.items.drop (k + 1)) S3, fun H' z => ⟨_, by omega, rfl, hlt, z⟩, fun v H3 y => ?_⟩
    obtain ⟨t4, s4, r4⟩ := hy v H3 y
    refine hg E M2 _ S2 σ H3 _ v _ _ ((R.step (t13.trans t4) s4).wipe ws) r4 q2 fun M5 ρ5 S5 σ5 H5 hw t5 R5 q5 => ⟨hw, ?_⟩
    refine ht E M5 ρ5 S5 σ5 H5 _ _ R5 q5 fun M6 S6 H6 b t6 s6 q6 => ?_
    have t36 := t3.trans (t4.trans (t5.trans t6))
    cases b with
    | false =>
      rw [if_neg Bool.false_ne_true]
      exact ⟨M6, S6, t36, s6, q6⟩
    | true =>
      rw [if_pos rfl]
      have R6 := R5.step t6 s6
      refine hi1 E M6 ρ5 S6 σ5 H6 _ _ R6 q6 fun M7 S7 H7 it1 J1 t7 s7 ok1 q7 => ?_
      have t37 := t36.trans t7
      refine ⟨fun k1 j1 H8 => j1 = it1.items.length - k1 ∧ k1 ≤ it1.items.length ∧ ∃ M8 S8, Step M7 H7 M8 H8 ∧ Sto X.K bk M8 S8 H8 ∧ pLcI it1.chk pg1 pt1 pe E (wipeP ρ5 ws1) S1.length (fun S' => L (it.items.drop (k + 1)) S') (it1.items.drop k1) S8,
        ⟨_, rfl, Nat.zero_le _, _, _, .refl _ _, s7, q7⟩, ?_⟩
      rintro k1 j1 H8 ⟨rfl, hk1, M8, S8, t8, s8, q8⟩
      have t38 := t37.trans t8
      by_cases hlt1 : k1 < it1.items.length
      · rw [List.drop_eq_getElem_cons hlt1] at q8
        unfold pLcI at q8
        obtain ⟨hck1, q8⟩ := q8
        obtain ⟨hgo1, hy1⟩ := (ok1 M8 S8 H8 k1 t8 s8 hck1).1 it1.items[k1] (by simp [hlt1])
        refine .inr ⟨hgo1, fun H' => ∃ M9 S9, Step M7 H7 M9 H' ∧ Sto X.K bk M9 S9 H' ∧ pLcI it1.chk pg1 pt1 pe E (wipeP ρ5 ws1) S1.length (fun S' => L (it.items.drop (k + 1)) S') (it1.items.drop (k1 + 1)) S9, fun H' z => ⟨_, by omega, rfl, hlt1, z⟩, fun v1 H9 y1 => ?_⟩
        obtain ⟨t9, s9, r9⟩ := hy1 v1 H9 y1
        refine hg1 E M8 _ S8 σ5 H9 _ v1 _ _ ((R6.step (t7.trans (t8.trans t9)) s9).wipe ws1) r9 q8 fun Ma ρa Sa σa Ha hwa ta Ra qa => ⟨hwa, ?_⟩
        refine ht1 E Ma ρa Sa σa Ha _ _ Ra qa fun Mb Sb Hb b1 tb sb qb => ?_
        have t7b := t8.trans (t9.trans (ta.trans tb))
        cases b1 with
        | false =>
          rw [if_neg Bool.false_ne_true]
          exact ⟨Mb, Sb, t7b, sb, qb⟩
        | true =>
          rw [if_pos rfl]
          refine he E Mb ρa Sb σa Hb _ _ (Ra.step tb sb) qb fun Mc Sc Hc yc vc tc sc rc qc => ?_
          obtain ⟨acc, ea, hl, qc⟩ := onO_ex qc
          have t7c := t7b.trans tc
          obtain ⟨a, vs, e1, e2, e3⟩ := sc.st.at_ _ _ ea
          have eq := eD (t37.trans t7c)
          rw [eq] at e1
          obtain rfl := Option.some.inj e1
          refine ⟨vs, e2, by rw [e3.length, szl]; exact hl, ?_⟩
          obtain ⟨td, sd⟩ := sc.write eq (e3.append (.cons rc .nil))
          exact ⟨Mc, _, t7c.trans td, sd, qc⟩
      · have e : k1 = it1.items.length := by omega
        subst e
        rw [List.drop_length] at q8
        obtain ⟨hck1, q8⟩ := q8
        exact .inl ⟨(ok1 M8 S8 H8 _ t8 s8 hck1).2 (by simp), M8, S8, t38, s8, q8⟩
  · have e : k = it.items.length := by omega
    subst e
    rw [List.drop_length] at q2
    obtain ⟨hck, q2⟩ := q2
    exact .inl ⟨(ok M2 S2 H2 _ (t2.trans t3) s3 hck).2 (by simp), p M2 S2 H2 _ _ t13 s3 (to_lst (eD t3)) q2⟩
theorem q_lc2 {elt tg iter tg1 iter1 : Expr} {ifs ifs1 : List Expr} {scope : Scope} {own : List (Str × Nat)} {pos : Pos} {i i1 : PTI} {pg pg1 : PTG} {pt pt1 : PTT} {pe : PTE} {ws ws1 : List Nat} (hc : X.calm = true) (hN : X.N.Nodup) (hi : QI bk X tg iter i) (ok : BlkOk X.N X.env.scope scope own) (hws : own.map (·.2) = ws) (hv : ∀ j ∈ ws1, j ∈ ws)
    (hg : ∀ (s : Shared) (H : Hp) (C : Addr) (cl : List (Str × Addr)) (fp : List Addr), QGw bk (X.blk s H scope (compEnvC scope cl C X.env) fp) tg pg ws)
    (ht : ∀ (s : Shared) (H : Hp) (C : Addr) (cl : List (Str × Addr)) (fp : List Addr), QTs bk (X.blk s H scope (compEnvC scope cl C X.env) fp) ifs pt)
    (hi1 : ∀ (s : Shared) (H : Hp) (C : Addr) (cl : List (Str × Addr)) (fp : List Addr), QI bk (X.blk s H scope (compEnvC scope cl C X.env) fp) tg1 iter1 i1)
    (hg1 : ∀ (s : Shared) (H : Hp) (C : Addr) (cl : List (Str × Addr)) (fp : List Addr), QGw bk (X.blk s H scope (compEnvC scope cl C X.env) fp) tg1 pg1 ws1)
    (ht1 : ∀ (s : Shared) (H : Hp) (C : Addr) (cl : List (Str × Addr)) (fp : List Addr), QTs bk (X.blk s H scope (compEnvC scope cl C X.env) fp) ifs1 pt1)
    (he : ∀ (s : Shared) (H : Hp) (C : Addr) (cl : List (Str × Addr)) (fp : List Addr), QE bk (X.blk s H scope (compEnvC scope cl C X.env) fp) elt pe)
    (hs : ∀ x, foldedSetIterable iter X.env x = pure x := by intro _; rfl) (hs1 : ∀ env x, foldedSetIterable iter1 env x = pure x := by intro _ _; rfl) : QE bk X (.ListComp elt [⟨tg, iter, ifs, 0⟩, ⟨tg1, iter1, ifs1, 0⟩] scope pos) (pLc2 i pg pt i1 pg1 pt1 pe ws ws1) := by
  obtain ⟨ti, pi, wi⟩ := hi.ex
  subst hws
  refine ⟨_, pe_lc2 (vs1 := ws1) (g := tGw bk X.K (own.map (·.2)) pg) (tt := tT bk X.K pt) (wi1 := tI bk X.K i1) (g1 := tGw bk X.K ws1 pg1) (tt1 := tT bk X.K pt1) (te := tE bk X.K pe) hc hN pi ok hv (fun s H C cl fp => (hg s H C cl fp).canon) (fun s H C cl fp => (ht s H C cl fp).canon) (fun s H C cl fp => (hi1 s H C cl fp).canon) (fun s H C cl fp => (hg1 s H C cl fp).canon) (fun s H C cl fp => (ht1 s H C cl fp).canon) (fun s H C cl fp => (he s H C cl fp).canon) hs hs1, fun E M ρ S σ H Q Q' R q p => ?_⟩
  exact lc2_sound wi (fun E M ρ S σ0 H x v Q Q' R r q k => ⟨E, M, ρ, S, σ0, x, Q, rfl, R, r, q, k⟩) (fun E M ρ S σ H Q Q' R q k => ⟨E, M, ρ, S, Q, R, q, k⟩) (fun E M ρ S σ H Q Q' R q k => ⟨E, M, ρ, S, Q, R, q, k⟩) (fun E M ρ S σ0 H x v Q Q' R r q k => ⟨E, M, ρ, S, σ0, x, Q, rfl, R, r, q, k⟩) (fun E M ρ S σ H Q Q' R q k => ⟨E, M, ρ, S, Q, R, q, k⟩) (fun E M ρ S σ H Q Q' R q k => ⟨E, M, ρ, S, Q, R, q, k⟩) E M ρ S σ H Q Q' R q p
theorem q_setLc2 {j : Nat} {y : Str} {py : Pos} {elt tg iter tg1 iter1 : Expr} {ifs ifs1 : List Expr} {scope : Scope} {own : List (Str × Nat)} {pos spos : Pos} {i i1 : PTI} {pg pg1 : PTG} {pt pt1 : PTT} {pe : PTE} {ws ws1 : List Nat} (hc : X.calm = true) (hN : X.N.Nodup) (hy : X.N[j]? = some y) (hyl : X.env.scope.names.lookup y = some .local)
    (hsw : swapsWith (.ListComp elt [⟨tg, iter, ifs, 0⟩, ⟨tg1, iter1, ifs1, 0⟩] scope pos) (some (.Name y py)) spos.line X.env = pure true) (hi : QI bk X tg iter i) (ok : BlkOk X.N X.env.scope scope own) (hws : own.map (·.2) = ws) (hv : ∀ j ∈ ws1, j ∈ ws)
    (hg : ∀ (s : Shared) (H : Hp) (C : Addr) (cl : List (Str × Addr)) (fp : List Addr), QGw bk (X.blk s H scope (compEnvC scope cl C X.env) fp) tg pg ws)
    (ht : ∀ (s : Shared) (H : Hp) (C : Addr) (cl : List (Str × Addr)) (fp : List Addr), QTs bk (X.blk s H scope (compEnvC scope cl C X.env) fp) ifs pt)
    (hi1 : ∀ (s : Shared) (H : Hp) (C : Addr) (cl : List (Str × Addr)) (fp : List Addr), QI bk (X.blk s H scope (compEnvC scope cl C X.env) fp) tg1 iter1 i1)
    (hg1 : ∀ (s : Shared) (H : Hp) (C : Addr) (cl : List (Str × Addr)) (fp : List Addr), QGw bk (X.blk s H scope (compEnvC scope cl C X.env) fp) tg1 pg1 ws1)
    (ht1 : ∀ (s : Shared) (H : Hp) (C : Addr) (cl : List (Str × Addr)) (fp : List Addr), QTs bk (X.blk s H scope (compEnvC scope cl C X.env) fp) ifs1 pt1)
    (he : ∀ (s : Shared) (H : Hp) (C : Addr) (cl : List (Str × Addr)) (fp : List Addr), QE bk (X.blk s H scope (compEnvC scope cl C X.env) fp) elt pe)
    (hs : ∀ x, foldedSetIterable iter X.env x = pure x := by intro _; rfl) (hs1 : ∀ env x, foldedSetIterable iter1 env x = pure x := by intro _ _; rfl) : QS bk X (.Assign [.Name y py] (.ListComp elt [⟨tg, iter, ifs, 0⟩, ⟨tg1, iter1, ifs1, 0⟩] scope pos) spos) (pSet j (pLc2 i pg pt i1 pg1 pt1 pe ws ws1)) := by
  obtain ⟨ti, pi, wi⟩ := hi.ex
  subst hws
  refine ⟨_, ps_setLc2 (vs1 := ws1) (g := tGw bk X.K (own.map (·.2)) pg) (tt := tT bk X.K pt) (wi1 := tI bk X.K i1) (g1 := tGw bk X.K ws1 pg1) (tt1 := tT bk X.K pt1) (te := tE bk X.K pe) hc hN hy hyl hsw pi ok hv (fun s H C cl fp => (hg s H C cl fp).canon) (fun s H C cl fp => (ht s H C cl fp).canon) (fun s H C cl fp => (hi1 s H C cl fp).canon) (fun s H C cl fp => (hg1 s H C cl fp).canon) (fun s H C cl fp => (ht1 s H C cl fp).canon) (fun s H C cl fp => (he s H C cl fp).canon) hs hs1, fun E M ρ S σ H D D' R q p => ?_⟩
  exact lc2_sound wi (fun E M ρ S σ0 H x v Q Q' R r q k => ⟨E, M, ρ, S, σ0, x, Q, rfl, R, r, q, k⟩) (fun E M ρ S σ H Q Q' R q k => ⟨E, M, ρ, S, Q, R, q, k⟩) (fun E M ρ S σ H Q Q' R q k => ⟨E, M, ρ, S, Q, R, q, k⟩) (fun E M ρ S σ0 H x v Q Q' R r q k => ⟨E, M, ρ, S, σ0, x, Q, rfl, R, r, q, k⟩) (fun E M ρ S σ H Q Q' R q k => ⟨E, M, ρ, S, Q, R, q, k⟩) (fun E M ρ S σ H Q Q' R q k => ⟨E, M, ρ, S, Q, R, q, k⟩) E M ρ S σ H _ _ R q fun M1 S1 H1 x v t1 s1 r1 q1 => p.nx M1 _ S1 _ H1 t1 ((R.step t1 s1).set j r1) q1
end
end L2.P3
namespace L2.P3
open PySem PySem.Spec PyProof.Rows
theorem pLcI_pure {chk : Store → Prop} {g : PTG} {tt : PTT} {te : PTE} {E : XW} {ρ0 : PEnv} {K : Store → Prop} {S : Store} (f : PV → Option PV) (hc : ∀ acc, chk (S ++ [acc])) :
    ∀ (xs : List PV) (acc : List PV), (∀ x ∈ xs, ∀ acc Qk, Qk (f x) (S ++ [acc]) → lcStep g tt te E ρ0 x (S ++ [acc]) Qk) → acc.length + xs.length ≤ 16777216 → K (S ++ [acc ++ xs.filterMap f]) →
      pLcI chk g tt te E ρ0 S.length K xs (S ++ [acc])
  | [], acc, _, _, q => ⟨hc acc, by simpa using q⟩
  | x :: xs, acc, h, hl, q => by
    refine ⟨hc acc, h x List.mem_cons_self acc (fun o S' => match o with
      | some y => onO S'[S.length]? fun a => a.length < 16777216 ∧ pLcI chk g tt te E ρ0 S.length K xs (S'.set S.length (a ++ [y]))
      | none => pLcI chk g tt te E ρ0 S.length K xs S') ?_⟩
    simp only [List.length_cons] at hl
    cases e : f x with
    | none =>
      rw [List.filterMap_cons_none e] at q
      exact pLcI_pure f hc xs acc (fun y hy => h y (List.mem_cons_of_mem _ hy)) (by omega) q
    | some y =>
      rw [List.filterMap_cons_some e] at q
      refine onO_of (x := acc) (by simp) ⟨by omega, ?_⟩
      have e2 : (S ++ [acc]).set S.length (acc ++ [y]) = S ++ [acc ++ [y]] := by simp
      rw [e2]
      exact pLcI_pure f hc xs (acc ++ [y]) (fun z hz => h z (List.mem_cons_of_mem _ hz)) (by simp; omega) (by simpa using q)
def lcStep2 (g : PTG) (tt : PTT) (i1 : PTI) (g1 : PTG) (tt1 : PTT) (te : PTE) (ws1 : List Nat) (E : XW) (ρ0 : PEnv) (n : Nat) (x : PV) (S : Store) (K : Store → Prop) : Prop :=
  g E x ρ0 S fun ρ1 S1 => tt E ρ1 S1 fun b S2 => Br b (i1 E ρ1 S2 fun it S3 => pLcI it.chk g1 tt1 te E (wipeP ρ1 ws1) n K it.items S3) (K S2)
theorem pLcO_pure {chk : Store → Prop} {g : PTG} {tt : PTT} {i1 : PTI} {g1 : PTG} {tt1 : PTT} {te : PTE} {ws1 : List Nat} {E : XW} {ρ0 : PEnv} {Q : PQ} {S : Store} (F : PV → List PV) (m : Nat) (hc : ∀ acc, chk (S ++ [acc])) :
    ∀ (xs : List PV) (acc : List PV), (∀ x ∈ xs, (F x).length ≤ m) → acc.length + xs.length * m ≤ 16777216 → (∀ x ∈ xs, ∀ acc K, acc.length + m ≤ 16777216 → K (S ++ [acc ++ F x]) → lcStep2 g tt i1 g1 tt1 te ws1 E ρ0 S.length x (S ++ [acc]) K) → Q (.lst S.length) (S ++ [acc ++ xs.flatMap F]) →
      pLcO chk g tt i1 g1 tt1 te ws1 E ρ0 S.length Q xs (S ++ [acc])
  | [], acc, _, _, _, q => ⟨hc acc, by simpa using q⟩
  | x :: xs, acc, hm, hl, h, q => by
    have h1 := hm x List.mem_cons_self
    rw [List.length_cons, Nat.succ_mul] at hl
    refine ⟨hc acc, h x List.mem_cons_self acc _ (by omega) ?_⟩
    exact pLcO_pure F m hc xs (acc ++ F x) (fun y hy => hm y (List.mem_cons_of_mem _ hy)) (by rw [List.length_append]; omega) (fun y hy => h y (List.mem_cons_of_mem _ hy)) (by simpa using q)
theorem atI_range {n k : Nat} {f : Nat → PV} (h : k < n) : atI ((List.range n).map f) (k : Int) = some (f k) := by
  rw [atI_get? (Int.natCast_nonneg k)]; simp [h]
end L2.P3
namespace L2.P3
open PySem PySem.Spec PyProof.Rows
mutual
theorem dat_belowN {st : Bool} {m : Nat} : ∀ {n : Nat} {x : PV}, dat st n x = true → below m x = true
  | n, .non, _ => rfl
  | n, .bl _, _ => rfl
  | n, .int _, _ => rfl
  | n, .str _, _ => rfl
  | n + 1, .tup xs, h => by
    simp only [dat, Bool.and_eq_true] at h
    unfold below
    exact dats_belowN h.2
  | 0, .tup xs, h => by simp [dat] at h
  | n, .lst _, h => by cases n <;> simp [dat] at h
  | n, .rol _, h => by cases n <;> simp [dat] at h
  | n, .bag, h => by cases n <;> simp [dat] at h
theorem dats_belowN {st : Bool} {m : Nat} : ∀ {n : Nat} {xs : List PV}, dats st n xs = true → belows m xs = true
  | n, [], _ => rfl
  | n, x :: xs, h => by
    simp only [dats, Bool.and_eq_true] at h
    simp only [belows, Bool.and_eq_true]
    exact ⟨dat_belowN h.1, dats_belowN h.2⟩
end
end L2.P3
namespace L2.P3
open PySem PySem.Spec PyProof.Rows
/-! ### the inverse by Euclid's way -/
structure Bz (m x r o u v : Int) : Prop where
  rp : 0 < r
  on : 0 ≤ o
  rm : r ≤ m
  om : o ≤ m
  hu : ∃ k, u * x = r + k * m
  hv : ∃ k, v * x = o + k * m
  hs : (0 ≤ v ∧ u ≤ 0 ∧ r * v - o * u = m) ∨ (v ≤ 0 ∧ 0 ≤ u ∧ o * u - r * v = m)
  hg : Int.gcd r o = 1
theorem gcd_emod_left {m x : Int} (hm : 0 < m) : Int.gcd m (x % m) = Int.gcd m x := by
  rw [Int.gcd_comm m x]
  have e : Int.gcd x m = Int.gcd (x % m) m := by
    have h := Int.mul_ediv_add_emod x m
    have h2 : x = x % m + x / m * m := by rw [Int.mul_comm]; omega
    rw [show Int.gcd x m = Int.gcd (x % m + x / m * m) m from by rw [← h2]]
    exact Int.gcd_add_mul_right_left ..
  rw [e, Int.gcd_comm]
theorem Bz.start {m x : Int} (hm : 0 < m) (hg : Int.gcd m x = 1) : Bz m x m (x % m) 0 1 := by
  have h0 := Int.emod_nonneg x (show m ≠ 0 by omega)
  have h1 := Int.emod_lt_of_pos x hm
  refine ⟨hm, h0, by omega, by omega, ⟨-1, by omega⟩, ⟨x / m, ?_⟩, .inl ⟨by decide, by decide, by omega⟩, ?_⟩
  · have h := Int.mul_ediv_add_emod x m
    rw [Int.mul_comm (x / m)]; omega
  · rw [gcd_emod_left hm]; exact hg
theorem Bz.next {m x r o u v : Int} (h : Bz m x r o u v) (ho : 0 < o) : Bz m x o (r - r / o * o) v (u - r / o * v) := by
  have hd := Int.mul_ediv_add_emod r o
  have h0 := Int.emod_nonneg r (show o ≠ 0 by omega)
  have h1 := Int.emod_lt_of_pos r ho
  have hp : 0 ≤ r / o := Int.ediv_nonneg (by have := h.rp; omega) (by omega)
  have e : r - r / o * o = r % o := by rw [Int.mul_comm]; omega
  obtain ⟨ku, hu⟩ := h.hu
  obtain ⟨kv, hv⟩ := h.hv
  have om := h.om
  generalize hpart : r / o = part at *
  refine ⟨ho, by omega, h.om, by omega, ⟨kv, hv⟩, ⟨ku - part * kv, ?_⟩, ?_, ?_⟩
  · grind
  · rcases h.hs with ⟨a, b, c⟩ | ⟨a, b, c⟩
    · right
      have := Int.mul_nonneg hp a
      refine ⟨by omega, a, ?_⟩
      grind
    · left
      have := Int.mul_nonneg hp (show 0 ≤ -v by omega)
      have e3 : part * -v = -(part * v) := Int.mul_neg _ _
      refine ⟨by omega, a, ?_⟩
      grind
  · rw [e, gcd_step (by have := h.rp; omega) (by omega)]; exact h.hg
theorem Bz.vm {m x r o u v : Int} (h : Bz m x r o u v) : -m ≤ v ∧ v ≤ m := by
  have rp := h.rp
  have on := h.on
  rcases h.hs with ⟨a, b, c⟩ | ⟨a, b, c⟩
  · have h1 : 1 * v ≤ r * v := Int.mul_le_mul_of_nonneg_right (by omega) a
    have h2 : 0 ≤ o * (-u) := Int.mul_nonneg on (by omega)
    have e : o * -u = -(o * u) := Int.mul_neg _ _
    omega
  · have h1 : 1 * (-v) ≤ r * (-v) := Int.mul_le_mul_of_nonneg_right (by omega) (by omega)
    have h2 : 0 ≤ o * u := Int.mul_nonneg on b
    have e : r * -v = -(r * v) := Int.mul_neg _ _
    omega
def IsInv (m x w : Int) : Prop := 0 ≤ w ∧ w < m ∧ ∃ k, w * x = 1 + k * m
theorem IsInv.of {m x u : Int} (hm : 0 < m) (h : ∃ k, u * x = 1 + k * m) : IsInv m x (u % m) := by
  obtain ⟨k, h⟩ := h
  refine ⟨Int.emod_nonneg _ (by omega), Int.emod_lt_of_pos _ hm, k - u / m * x, ?_⟩
  have e : u % m = u - m * (u / m) := by have := Int.mul_ediv_add_emod u m; omega
  rw [e]
  grind
theorem IsInv.unique {m x w z : Int} (hm : 0 < m) (h : IsInv m x w) (h' : IsInv m x z) : w = z := by
  obtain ⟨a0, a1, k, hk⟩ := h
  obtain ⟨b0, b1, l, hl⟩ := h'
  have e : w - z = m * (z * k - w * l) := by grind
  have h1 : (w - z) % m = 0 := by rw [e]; exact Int.mul_emod_right _ _
  rcases Int.lt_trichotomy w z with h | h | h
  · exfalso
    have : (w - z) % m = w - z + m := by
      have h2 : w - z = (w - z + m) + (-1) * m := by omega
      rw [h2, Int.add_mul_emod_self_right, Int.emod_eq_of_lt (by omega) (by omega)]; omega
    omega
  · exact h
  · exfalso
    rw [Int.emod_eq_of_lt (by omega) (by omega)] at h1; omega
end L2.P3
/-! zip of two sequences, each of them a list or a tuple -/
namespace L2.P3.Z
open PySem
open PySem.Sem (wp)
/-- one side of a zip: true for a tuple -/
def SIt : Bool → Heap → Addr → Addr → Nat → Prop
  | true, h, p, l, i => h.IsTupleIter p l i
  | false, h, p, l, i => h.IsListIter p l i
def SSq : Bool → Heap → Addr → Array Value → Prop
  | true, h, l, xs => h.IsTuple l xs
  | false, h, l, xs => h.IsList l xs
theorem SIt.keepAt {t : Bool} {h h' : Heap} {p l : Addr} {i : Nat} (a : SIt t h p l i) (k : ∀ o, h.get? p = some o → h'.get? p = some o) : SIt t h' p l i := by
  cases t
  · exact Heap.IsListIter.at a k
  · exact Heap.IsTupleIter.at a k
theorem SIt.but {t : Bool} {h h' : Heap} {c p l : Addr} {i : Nat} (a : SIt t h p l i) (k : Heap.ExtBut c h h') (n : p ≠ c) : SIt t h' p l i := a.keepAt fun o e => k _ _ n e
theorem SSq.but {t : Bool} {h h' : Heap} {c l : Addr} {xs : Array Value} (a : SSq t h l xs) (k : Heap.ExtBut c h h') (n : l ≠ c) : SSq t h' l xs := by
  cases t
  · exact Heap.IsList.extBut a k n
  · exact Heap.IsTuple.extBut a k n
theorem SIt.size {t : Bool} {h : Heap} {p l : Addr} {i : Nat} (a : SIt t h p l i) : p < h.objs.size := by
  cases t
  · obtain ⟨_, e, _⟩ := (a : h.IsListIter p l i); exact Heap.lt_size e
  · obtain ⟨_, e, _⟩ := (a : h.IsTupleIter p l i); exact Heap.lt_size e
section
variable {prog : Program} {w : World} {A : Around} {E : Value → Shared → Prop} {s : Shared}
theorem side_item {t : Bool} {p l : Addr} {i : Nat} {xs : Array Value} {x : Value} {Q : Value → Shared → Prop} (a : SIt t s.heap p l i) (b : SSq t s.heap l xs) (e : xs[i]? = some x)
    (q : ∀ h', SIt t h' p l (i + 1) → Heap.SameBut p s.heap h' → Q x { s with heap := h' }) : wpAny (model prog w) A (Builtin.SmallTypes.nextOf (.ref p)) Q E s := by
  cases t
  · exact wpAny_nextOf_list_item a b e q
  · exact RZ.nextOf_tuple_item a b e q
theorem side_end {t : Bool} {p l : Addr} {i : Nat} {xs : Array Value} {Q : Value → Shared → Prop} (hh : A.handled = none) (a : SIt t s.heap p l i) (b : SSq t s.heap l xs) (e : xs[i]? = none)
    (q : ∀ h' e, Heap.ExtBut p s.heap h' → (∃ o, h'.get? e = some o ∧ o.cls = .type "StopIteration") → E (.ref e) { s with heap := h' }) : wpAny (model prog w) A (Builtin.SmallTypes.nextOf (.ref p)) Q E s := by
  cases t
  · exact wpAny_nextOf_list_end hh a b e q
  · exact RZ.nextOf_tuple_end hh a b e q
/-- what stays of the heap through one turn of a zip -/
def Left (z TO i1 i2 : Addr) (h h' : Heap) : Prop := ∀ c o, c ≠ z → c ≠ TO → c ≠ i1 → c ≠ i2 → h.get? c = some o → h'.get? c = some o
/-- one turn of a zip: the pair that it makes, or the end -/
theorem zip_turn {t1 t2 : Bool} {z TI TO i1 i2 l1 l2 : Addr} {k1 k2 : Nat} {xs ys : Array Value} {a b : Value} {Q : Value → Shared → Prop} (D : ZipApart z TI TO i1 i2 l1 l2)
    (gz : IsZip s.heap z TI TO .none) (gI : IsPair s.heap TI (.ref i1) (.ref i2)) (gO : IsPair s.heap TO a b) (u1 : SIt t1 s.heap i1 l1 k1) (u2 : SIt t2 s.heap i2 l2 k2) (v1 : SSq t1 s.heap l1 xs) (v2 : SSq t2 s.heap l2 ys)
    (hh : xs[k1]? = none ∨ ys[k2]? = none → A.handled = none)
    (kQ : ∀ x y, xs[k1]? = some x → ys[k2]? = some y → ∀ h', IsZip h' z TI TO (rawInt s.heap.objs.size) → IsPair h' TO x y → SIt t1 h' i1 l1 (k1 + 1) → SIt t2 h' i2 l2 (k2 + 1) → IsPair h' s.heap.objs.size x y →
      Left z TO i1 i2 s.heap h' → Q (.ref s.heap.objs.size) { s with heap := h' })
    (kE : (xs[k1]? = none ∨ ys[k2]? = none) → ∀ h' e, Left z TO i1 i2 s.heap h' → (∃ o, h'.get? e = some o ∧ o.cls = .type "StopIteration") → E (.ref e) { s with heap := h' }) :
    wpAny (model prog w) A (Builtin.«zip.__next__» ⟨[.ref z], []⟩) (fun fin s' => ∃ v, fin = .done (.ret v) ∧ Q v s') E s := by
  refine wpAny_bind (m := field (.ref z) 2) (wpAny_field gz rfl (x := .bool false) rfl ?_)
  refine wpAny_bind (m := field (.ref z) 3) (wpAny_field gz rfl (x := .ref TI) rfl ?_)
  refine wpAny_bind (wpAny_seqItems gI rfl ?_)
  refine wpAny_bind (m := Builtin.SmallTypes.ownedTupleIsFree (.ref z)) ?_
  unfold Builtin.SmallTypes.ownedTupleIsFree
  refine wpAny_bind (wpAny_field gz rfl (x := .none) rfl (wpAny_pure ?_))
  rw [if_pos rfl]
  refine wpAny_bind (wpAny_rule (wpAny_bind (wpAny_field gz rfl (x := .ref TO) rfl ?_)))
  refine wpAny_bind (wpAny_setField_rec gz (by simp) fun m1 p1 b1 => ?_)
  have p1 : IsZip m1 z TI TO .ellipsis := p1
  have w1 : SIt t1 m1 i1 l1 k1 := u1.but b1.extBut D.i1z
  have w2 : SIt t2 m1 i2 l2 k2 := u2.but b1.extBut D.i2z
  have x1 : SSq t1 m1 l1 xs := v1.but b1.extBut D.l1z
  have x2 : SSq t2 m1 l2 ys := v2.but b1.extBut D.l2z
  have gO1 : IsPair m1 TO a b := b1.extBut _ _ D.TOz gO
  refine wpAny_bind ?_
  simp only [List.forIn_cons, List.forIn_nil, List.zipIdx_cons, List.zipIdx_nil]
  refine wpAny_bind (wpAny_bind (wpAny_onRaise (m := Builtin.SmallTypes.nextOf (.ref i1) >>= fun v => pure (some v)) ?_))
  cases ex : xs[k1]? with
  | none =>
    refine wpAny_bind (side_end (hh (.inl ex)) w1 x1 ex fun m2 e b2 se => ?_)
    have p2 : IsZip m2 z TI TO .ellipsis := b2 _ _ D.i1z.symm p1
    obtain ⟨oe, ge, ce⟩ := se
    have ne : e ≠ z := fun q => by rw [q, p2] at ge; obtain rfl := Option.some.inj ge; simp at ce
    exact wpAny_setField_rec p2 (by simp) fun m3 _ b3 => kE (.inl ex) m3 e (fun c o c1 _ c3 _ q => b3.extBut _ _ c1 (b2 _ _ c3 (b1.extBut _ _ c1 q))) ⟨oe, b3.extBut _ _ ne ge, ce⟩
  | some x =>
    refine wpAny_bind (side_item w1 x1 ex fun m2 y1 b2 => wpAny_pure ?_)
    have gO2 : IsPair m2 TO a b := b2.extBut _ _ D.TOi1 gO1
    refine wpAny_bind (wpAny_seqItems gO2 rfl (wpAny_bind (wpAny_updateSeq_pair gO2 fun m3 gO3 b3 => ?_)))
    have gO3 : IsPair m3 TO x b := gO3
    refine wpAny_bind (wpAny_letGo (wpAny_pure (wpAny_bind (wpAny_bind (wpAny_onRaise (m := Builtin.SmallTypes.nextOf (.ref i2) >>= fun v => pure (some v)) ?_)))))
    have w3 : SIt t2 m3 i2 l2 k2 := (w2.but b2.extBut D.i12.symm).but b3.extBut D.TOi2.symm
    have x3 : SSq t2 m3 l2 ys := (x2.but b2.extBut D.l2i1).but b3.extBut D.l2TO
    have p3 : IsZip m3 z TI TO .ellipsis := b3.extBut _ _ D.TOz.symm (b2.extBut _ _ D.i1z.symm p1)
    have y3 : SIt t1 m3 i1 l1 (k1 + 1) := y1.but b3.extBut D.TOi1.symm
    have up3 : ∀ c o, c ≠ z → c ≠ TO → c ≠ i1 → s.heap.get? c = some o → m3.get? c = some o := fun c o c1 c2 c3 q => b3.extBut _ _ c2 (b2.extBut _ _ c3 (b1.extBut _ _ c1 q))
    cases ey : ys[k2]? with
    | none =>
      refine wpAny_bind (side_end (hh (.inr ey)) w3 x3 ey fun m4 e b4 se => ?_)
      have p4 : IsZip m4 z TI TO .ellipsis := b4 _ _ D.i2z.symm p3
      obtain ⟨oe, ge, ce⟩ := se
      have ne : e ≠ z := fun q => by rw [q, p4] at ge; obtain rfl := Option.some.inj ge; simp at ce
      exact wpAny_setField_rec p4 (by simp) fun m5 _ b5 => kE (.inr ey) m5 e (fun c o c1 c2 c3 c4 q => b5.extBut _ _ c1 (b4 _ _ c4 (up3 c o c1 c2 c3 q))) ⟨oe, b5.extBut _ _ ne ge, ce⟩
    | some y =>
      refine wpAny_bind (side_item w3 x3 ey fun m4 y2 b4 => wpAny_pure ?_)
      have gO4 : IsPair m4 TO x b := b4.extBut _ _ D.TOi2 gO3
      refine wpAny_bind (wpAny_seqItems gO4 rfl (wpAny_bind (wpAny_updateSeq_pair gO4 fun m5 gO5 b5 => ?_)))
      have gO5 : IsPair m5 TO x y := gO5
      refine wpAny_bind (wpAny_letGo (wpAny_pure (wpAny_pure (wpAny_bind (wpAny_seqItems gO5 rfl (wpAny_bind (wpAny_newTuple ?_)))))))
      have sz5 : m5.objs.size = s.heap.objs.size := by rw [b5.1, b4.1, b3.1, b2.1, b1.1]
      have p5 : IsZip m5 z TI TO .ellipsis := b5.extBut _ _ D.TOz.symm (b4.extBut _ _ D.i2z.symm p3)
      have y15 : SIt t1 m5 i1 l1 (k1 + 1) := (y3.but b4.extBut D.i12).but b5.extBut D.TOi1.symm
      have y25 : SIt t2 m5 i2 l2 (k2 + 1) := y2.but b5.extBut D.TOi2.symm
      have up5 : Left z TO i1 i2 s.heap m5 := fun c o c1 c2 c3 c4 q => b5.extBut _ _ c2 (b4.extBut _ _ c4 (up3 c o c1 c2 c3 q))
      refine wpAny_bind (m := Builtin.SmallTypes.ownedTupleHandOut (.ref z) (.ref m5.objs.size)) ?_
      unfold Builtin.SmallTypes.ownedTupleHandOut
      have p6 : IsZip (m5.push { cls := .type "tuple", data := .seq #[x, y] }) z TI TO .ellipsis := Heap.get?_push_of_some _ p5
      refine wpAny_bind (wpAny_setField_rec p6 (by simp) fun m7 p7 b7 => ?_)
      have p7 : IsZip m7 z TI TO (rawInt m5.objs.size) := p7
      refine wpAny_setField_rec p7 (by simp) fun m8 p8 b8 => wpAny_pure ⟨_, rfl, ?_⟩
      have p8 : IsZip m8 z TI TO (rawInt m5.objs.size) := p8
      have nz : m5.objs.size ≠ z := Nat.ne_of_gt (Heap.lt_size p5)
      have up8 : ∀ c o, c ≠ z → m5.get? c = some o → m8.get? c = some o := fun c o c1 q => b8.extBut _ _ c1 (b7.extBut _ _ c1 (Heap.get?_push_of_some _ q))
      have new : IsPair m8 m5.objs.size x y := b8.extBut _ _ nz (b7.extBut _ _ nz (Heap.get?_push_size _ rfl))
      rw [sz5] at p8 new
      show Q (.ref m5.objs.size) _
      rw [sz5]
      exact kQ x y ex ey m8 p8 (up8 _ _ D.TOz gO5) (y15.keepAt fun o q => up8 _ o D.i1z q) (y25.keepAt fun o q => up8 _ o D.i2z q) new fun c o c1 c2 c3 c4 q => up8 c o c1 (up5 c o c1 c2 c3 c4 q)
theorem next_pair {t1 t2 : Bool} {z TI TO i1 i2 l1 l2 : Addr} {k1 k2 : Nat} {xs ys : Array Value} {a b x y : Value} {Q : Option Value → Shared → Prop} (D : ZipApart z TI TO i1 i2 l1 l2)
    (gz : IsZip s.heap z TI TO .none) (gI : IsPair s.heap TI (.ref i1) (.ref i2)) (gO : IsPair s.heap TO a b) (u1 : SIt t1 s.heap i1 l1 k1) (u2 : SIt t2 s.heap i2 l2 k2) (v1 : SSq t1 s.heap l1 xs) (v2 : SSq t2 s.heap l2 ys)
    (ex : xs[k1]? = some x) (ey : ys[k2]? = some y)
    (kQ : ∀ h', IsZip h' z TI TO (rawInt s.heap.objs.size) → IsPair h' TO x y → SIt t1 h' i1 l1 (k1 + 1) → SIt t2 h' i2 l2 (k2 + 1) → IsPair h' s.heap.objs.size x y → Left z TO i1 i2 s.heap h' → Q (some (.ref s.heap.objs.size)) { s with heap := h' }) :
    wpAny (model prog w) A (pyNext (.ref z)) Q E s := by
  have ty : s.TypeIs (.ref z) "zip" := ⟨_, gz, rfl⟩
  unfold pyNext
  refine wpAny_bind (wpAny_attempt (wpAny_callSpecial?_slot (name := Str.ofString "__next__") ty F.slot_zip_next (wpAny_call_entry F.slot_zip_next ty F.entry_zip_next ?_ (F.args_zip_next_1 _))))
  refine zip_turn D gz gI gO u1 u2 v1 v2 (fun h => ?_) (fun x' y' ex' ey' h' c1 c2 c3 c4 c5 c6 => ?_) (fun h => ?_)
  · rw [ex, ey] at h; rcases h with h | h <;> cases h
  · rw [ex] at ex'; rw [ey] at ey'
    obtain rfl := Option.some.inj ex'
    obtain rfl := Option.some.inj ey'
    exact wpAny_pure (kQ h' c1 c2 c3 c4 c5 c6)
  · rw [ex, ey] at h; rcases h with h | h <;> cases h
theorem next_none {t1 t2 : Bool} {z TI TO i1 i2 l1 l2 : Addr} {k1 k2 : Nat} {xs ys : Array Value} {a b : Value} {Q : Option Value → Shared → Prop} (hh : A.handled = none) (D : ZipApart z TI TO i1 i2 l1 l2)
    (gz : IsZip s.heap z TI TO .none) (gI : IsPair s.heap TI (.ref i1) (.ref i2)) (gO : IsPair s.heap TO a b) (u1 : SIt t1 s.heap i1 l1 k1) (u2 : SIt t2 s.heap i2 l2 k2) (v1 : SSq t1 s.heap l1 xs) (v2 : SSq t2 s.heap l2 ys)
    (en : xs[k1]? = none ∨ ys[k2]? = none) (kE : ∀ h', Left z TO i1 i2 s.heap h' → Q none { s with heap := h' }) : wpAny (model prog w) A (pyNext (.ref z)) Q E s := by
  have ty : s.TypeIs (.ref z) "zip" := ⟨_, gz, rfl⟩
  unfold pyNext
  refine wpAny_bind (wpAny_attempt (wpAny_callSpecial?_slot (name := Str.ofString "__next__") ty F.slot_zip_next (wpAny_call_entry F.slot_zip_next ty F.entry_zip_next ?_ (F.args_zip_next_1 _))))
  refine zip_turn D gz gI gO u1 u2 v1 v2 (fun _ => hh) (fun x y ex ey => ?_) (fun _ h' e lf se => ?_)
  · rw [ex, ey] at en; rcases en with h | h <;> cases h
  · obtain ⟨o, go, co⟩ := se
    exact wpAny_bind (wpAny_isInstance (T := "StopIteration") (b := true) ⟨o, go, co⟩ isSubtype_stop (wpAny_pure (kE h' lf)))
end
end L2.P3.Z

/-! ### zip for the hand layer -/
namespace L2.P3
open PySem PySem.Spec PyProof.Rows L2 L2.P3.Z
def SqS (K : PySem.W.Frag) (H : Hp) : Bool → Addr → List V → Prop
  | true, a, xs => SqT K H a xs
  | false, a, xs => SqL K H a xs
/-- the sequences at a and b, side by side, as they stand at each turn -/
def ItzS (K : PySem.W.Frag) (t1 t2 : Bool) (a b : Addr) : It where
  go i H := ∃ (xs ys : List V) (x y : V), SqS K H t1 a xs ∧ SqS K H t2 b ys ∧ xs[i]? = some x ∧ ys[i]? = some y
  yld i H v H' := ∃ T x y, v = .ref T ∧ H T = none ∧ H' = upd H T (.tup [x, y]) ∧ (∀ xs, SqS K H t1 a xs → xs[i]? = some x) ∧ ∀ ys, SqS K H t2 b ys → ys[i]? = some y
  stop i H := ∃ xs ys : List V, SqS K H t1 a xs ∧ SqS K H t2 b ys ∧ (xs.length ≤ i ∨ ys.length ≤ i)
section
variable {X : Cx} {pins : List (Addr × Obj)} {σ : L2.St} {H : Hp} {s : Shared} {a : Addr} {xs ys : List V}
theorem inv_side (t : Bool) (I : Inv X pins σ H s) (h : SqS X.K H t a xs) : ∃ us : List Value, Vals xs us ∧ SSq t s.heap a us.toArray ∧ a < s.heap.objs.size := by
  cases t
  · obtain ⟨us, r, p, _⟩ := I.list h
    exact ⟨us, r, p.isList, p.lt⟩
  · obtain ⟨us, r, p, _⟩ := I.tuple h
    obtain ⟨o, e, _⟩ := id p
    exact ⟨us, r, p, Heap.lt_size e⟩
theorem side_inj {t : Bool} (I : Inv X pins σ H s) (h : SqS X.K H t a xs) (h' : SqS X.K H t a ys) : xs = ys := by
  cases t
  · exact I.list_inj h h'
  · exact I.tuple_inj h h'
end
theorem SIt.cells {t : Bool} {h : Heap} {p l : Addr} {i : Nat} (a : SIt t h p l i) : ∃ o, h.get? p = some o ∧ ∀ v, o.data ≠ .cell v := by
  cases t
  · obtain ⟨o, e, _, d⟩ := (a : h.IsListIter p l i); exact ⟨o, e, fun v q => by rw [d] at q; cases q⟩
  · obtain ⟨o, e, _, d⟩ := (a : h.IsTupleIter p l i); exact ⟨o, e, fun v q => by rw [d] at q; cases q⟩
theorem five {c z TI TO i1 i2 : Addr} (h : c ∈ [z, TI, TO, i1, i2]) : c = z ∨ c = TI ∨ c = TO ∨ c = i1 ∨ c = i2 := by simpa using h
theorem not_five {c z TI TO i1 i2 : Addr} (h : c ∉ [z, TI, TO, i1, i2]) : c ≠ z ∧ c ≠ TI ∧ c ≠ TO ∧ c ≠ i1 ∧ c ≠ i2 := by simpa using h
theorem zip_turns {P : Program} {w : World} {K : PySem.W.Frag} {es : List Expr} {q : Nat} {p : Pos} {t1 t2 : Bool} {a b z TI TO i1 i2 : Addr} (D : ZipApart z TI TO i1 i2 a b) :
    Turn P w K (.Tuple es q p) (ItzS K t1 t2 a b) [z, TI, TO, i1, i2] z (fun i h => IsZip h z TI TO .none ∧ IsPair h TI (.ref i1) (.ref i2) ∧ (∃ x y, IsPair h TO x y) ∧ SIt t1 h i1 a i ∧ SIt t2 h i2 b i) where
  mem := by simp
  self := fun _ _ _ _ _ st h => wpAny_pyIter_zip st.1 h
  keep := fun i h h' ⟨gz, gI, ⟨x, y, gO⟩, u1, u2⟩ k => ⟨k z (by simp) _ gz, k TI (by simp) _ gI, ⟨x, y, k TO (by simp) _ gO⟩, u1.keepAt fun o e => k i1 (by simp) o e, u2.keepAt fun o e => k i2 (by simp) o e⟩
  obj := fun i h ⟨gz, gI, ⟨x, y, gO⟩, u1, u2⟩ c hc => by
    rcases five hc with e | e | e | e | e <;> subst e
    · exact ⟨_, gz, fun v q => by cases q⟩
    · exact ⟨_, gI, fun v q => by cases q⟩
    · exact ⟨_, gO, fun v q => by cases q⟩
    · exact SIt.cells u1
    · exact SIt.cells u2
  item := by
    rintro X rfl rfl rfl hc i pins s σ H E I hf ⟨gz, gI, ⟨x0, y0, gO⟩, u1, u2⟩ ⟨xs, ys, x, y, qx, qy, ex, ey⟩
    obtain ⟨us, ru, v1, _⟩ := inv_side t1 I qx
    obtain ⟨ws, rw', v2, _⟩ := inv_side t2 I qy
    obtain ⟨u, eu, r1⟩ := ru.get ex
    obtain ⟨v, ev, r2⟩ := rw'.get ey
    have zl : z < s.heap.objs.size := Heap.lt_size gz
    refine next_pair D gz gI gO u1 u2 v1 v2 (x := u) (y := v) (by simpa using eu) (by simpa using ev) fun h1 c1 c2 c3 c4 c5 c6 => ?_
    refine ⟨_, rfl, wpAny_letOwnedTupleGo_zip (s := { s with heap := h1 }) c1 fun h2 d1 sb => ?_⟩
    have new2 : h2.get? s.heap.objs.size = some { cls := .type "tuple", data := .seq #[u, v] } := (sb.2 _ (Nat.ne_of_gt zl)).trans c5
    have two : ObjOk X.prog X.w (upd H s.heap.objs.size (.tup [x, y])) h2 s.heap.objs.size (.tup [x, y]) := ⟨by show 2 ≤ sizeLine; decide, [u, v], .cons r1 (.cons r2 .nil), _, new2, rfl, _, rfl⟩
    refine ⟨.ref s.heap.objs.size, _, I.turnedNew (t' := s.toks) (ch := [z, TI, TO, i1, i2]) (fun c o hb e => ?_) hf (Nat.le_refl _) two, rfl, ?_, ?_, fun c hm => ?_⟩
    · obtain ⟨n1, n2, n3, n4, n5⟩ := not_five hb
      exact (sb.2 c n1).trans (c6 c o n1 n3 n4 n5 e)
    · exact ⟨_, x, y, rfl, I.hok.fresh (Nat.le_refl _), rfl, fun l e => by rw [side_inj I e qx]; exact ex, fun l e => by rw [side_inj I e qy]; exact ey⟩
    · refine ⟨d1, (sb.2 _ D.TIz).trans (c6 _ _ D.TIz D.TITO D.TIi1 D.TIi2 gI), ⟨u, v, (sb.2 _ D.TOz).trans c2⟩, c3.keepAt fun o e => (sb.2 _ D.i1z).trans e, c4.keepAt fun o e => (sb.2 _ D.i2z).trans e⟩
    · have lt : c < s.heap.objs.size := by
        rcases five hm with e | e | e | e | e <;> subst e
        · exact zl
        · exact Heap.lt_size gI
        · exact Heap.lt_size gO
        · exact u1.size
        · exact u2.size
      rw [upd_ne (Nat.ne_of_lt lt)]
      exact (hf c hm).1
  done := by
    rintro X rfl rfl rfl hc i pins s σ H E I hf ⟨gz, gI, ⟨x0, y0, gO⟩, u1, u2⟩ ⟨xs, ys, qx, qy, en⟩
    obtain ⟨us, ru, v1, _⟩ := inv_side t1 I qx
    obtain ⟨ws, rw', v2, _⟩ := inv_side t2 I qy
    have l1 := ru.length
    have l2 := rw'.length
    refine next_none (I.ok.hd hc) D gz gI gO u1 u2 v1 v2 ?_ fun h1 lf => ⟨rfl, I.turnedL (t' := s.toks) (ch := [z, TI, TO, i1, i2]) (fun c o hb e => ?_) hf⟩
    · rcases en with e | e
      · exact .inl (by simp; omega)
      · exact .inr (by simp; omega)
    · obtain ⟨n1, n2, n3, n4, n5⟩ := not_five hb
      exact lf c o n1 n3 n4 n5 e
end L2.P3

/-! ### the call of zip -/
namespace L2.P3.Z
open PySem PySem.Spec PyProof.Rows L2
def sideObj : Bool → Addr → Obj
  | true, l => { cls := .type "tuple_iterator", data := .fields #[.ref l, .int 0 0] }
  | false, l => { cls := .type "list_iterator", data := .fields #[.ref l, .int 0 0] }
theorem side_live (t : Bool) (l : Addr) : (sideObj t l).isFreed = false := by cases t <;> rfl
section
variable {prog : Program} {w : World} {A : Around} {E : Value → Shared → Prop} {s : Shared}
theorem side_iter {t : Bool} {l : Addr} {us : Array Value} {Q : Value → Shared → Prop} (v : SSq t s.heap l us) (q : Q (.ref s.heap.objs.size) { s with heap := s.heap.push (sideObj t l) }) : wpAny (model prog w) A (pyIter (.ref l)) Q E s := by
  cases t
  · exact wpAny_pyIter_list v q
  · exact wpAny_pyIter_tuple v q
theorem SIt.start {t : Bool} {h : Heap} {p l : Addr} (e : h.get? p = some (sideObj t l)) : SIt t h p l 0 := by
  cases t
  · exact ⟨_, e, rfl, rfl⟩
  · exact ⟨_, e, rfl, rfl⟩
theorem SSq.push {t : Bool} {h : Heap} {l : Addr} {us : Array Value} (v : SSq t h l us) (o : Obj) : SSq t (h.push o) l us := by
  cases t
  · exact Heap.IsList.push v o
  · exact Heap.IsTuple.push v o
abbrev zA (t1 : Bool) (l1 : Addr) (h : Heap) : Heap := h.push (sideObj t1 l1)
abbrev zB (t1 t2 : Bool) (l1 l2 : Addr) (h : Heap) : Heap := (zA t1 l1 h).push (sideObj t2 l2)
abbrev zC (t1 t2 : Bool) (l1 l2 : Addr) (h : Heap) : Heap := (zB t1 t2 l1 l2 h).push { data := .seq #[.ref h.objs.size, .ref (zA t1 l1 h).objs.size], cls := .type "tuple" }
abbrev zD (t1 t2 : Bool) (l1 l2 : Addr) (h : Heap) : Heap := (zC t1 t2 l1 l2 h).push { data := .seq #[.none, .none], cls := .type "tuple" }
abbrev zE (t1 t2 : Bool) (l1 l2 : Addr) (h : Heap) : Heap := (zD t1 t2 l1 l2 h).push { data := .fields #[.none, .bool false, .bool false, .ref (zB t1 t2 l1 l2 h).objs.size, .ref (zC t1 t2 l1 l2 h).objs.size], cls := .type "zip" }
theorem zip_born (t1 t2 : Bool) (l1 l2 : Addr) (us vs : Array Value) :
    Meets (Builtin.«zip.__new__» ⟨[.type "zip", .ref l1, .ref l2], []⟩) (fun _ R s => SSq t1 s.heap l1 us ∧ SSq t2 s.heap l2 vs ∧ R (.ok (.ret (.ref (zD t1 t2 l1 l2 s.heap).objs.size))) { s with heap := zE t1 t2 l1 l2 s.heap }) :=
  .of_wp fun prog w A R s q => by
    obtain ⟨hp, gl, dd, tk, oss⟩ := s
    obtain ⟨v1, v2, q⟩ := q
    have sz := sub_zip
    have w1 : SSq t1 (Shared.heap ⟨hp, gl, dd, tk, oss⟩) l1 us := v1
    have w2 : SSq t2 (Shared.heap ⟨hp.push (sideObj t1 l1), gl, dd, tk, oss⟩) l2 vs := SSq.push v2 _
    wp_walk using side_iter w1, side_iter w2
    exact ⟨_, rfl, q⟩
theorem zip_call {t1 t2 : Bool} {l1 l2 : Addr} {us vs : Array Value} {Q : Value → Shared → Prop} (v1 : SSq t1 s.heap l1 us) (v2 : SSq t2 s.heap l2 vs)
    (k : ∀ h', IsZip h' (s.heap.objs.size + 4) (s.heap.objs.size + 2) (s.heap.objs.size + 3) .none → IsPair h' (s.heap.objs.size + 2) (.ref s.heap.objs.size) (.ref (s.heap.objs.size + 1)) → IsPair h' (s.heap.objs.size + 3) .none .none →
      SIt t1 h' s.heap.objs.size l1 0 → SIt t2 h' (s.heap.objs.size + 1) l2 0 → (∀ c o, s.heap.get? c = some o → h'.get? c = some o) → Q (.ref (s.heap.objs.size + 4)) { s with heap := h' }) :
    wpAny (model prog w) A (call (.type "zip") [.ref l1, .ref l2]) Q E s := by
  refine callType_new F.called_zip (by decide) (F.typeCall_zip_2 _ _) (F.newCall_zip_2 _ _) (fun ob => F.args_object_init_3 ob _ _) F.entry_zip_new (zip_born t1 t2 l1 l2 us vs) ⟨v1, v2, ?_⟩
  have nA : (zA t1 l1 s.heap).objs.size = s.heap.objs.size + 1 := Heap.size_push ..
  have nB : (zB t1 t2 l1 l2 s.heap).objs.size = s.heap.objs.size + 2 := (Heap.size_push ..).trans (by rw [nA])
  have nC : (zC t1 t2 l1 l2 s.heap).objs.size = s.heap.objs.size + 3 := (Heap.size_push ..).trans (by rw [nB])
  have nD : (zD t1 t2 l1 l2 s.heap).objs.size = s.heap.objs.size + 4 := (Heap.size_push ..).trans (by rw [nC])
  have up : ∀ {h : Heap} {o : Obj} {c : Addr} {r : Obj}, h.get? c = some r → (h.push o).get? c = some r := fun e => Heap.get?_push_of_some _ e
  have e5 : (zE t1 t2 l1 l2 s.heap).get? (zD t1 t2 l1 l2 s.heap).objs.size = some _ := Heap.get?_push_size _ rfl
  have e4 : (zE t1 t2 l1 l2 s.heap).get? (zC t1 t2 l1 l2 s.heap).objs.size = some _ := up (Heap.get?_push_size _ rfl)
  have e3 : (zE t1 t2 l1 l2 s.heap).get? (zB t1 t2 l1 l2 s.heap).objs.size = some _ := up (up (Heap.get?_push_size _ rfl))
  have e2 : (zE t1 t2 l1 l2 s.heap).get? (zA t1 l1 s.heap).objs.size = some _ := up (up (up (Heap.get?_push_size _ (side_live t2 l2))))
  have e1 : (zE t1 t2 l1 l2 s.heap).get? s.heap.objs.size = some _ := up (up (up (up (Heap.get?_push_size _ (side_live t1 l1)))))
  show _ ∧ _
  rw [nB, nC, nD] at e5
  rw [nA, nB] at e3
  rw [nC] at e4
  rw [nA] at e2
  rw [nD]
  exact ⟨⟨_, e5, rfl⟩, k _ e5 e3 e4 (.start e1) (.start e2) fun c o q => up (up (up (up (up q))))⟩
end
end L2.P3.Z

/-! ### a walk over two sequences side by side -/
namespace L2.P3
open PySem PySem.Spec PyProof.Rows L2 L2.P3.Z
def iZipS (K : PySem.W.Frag) (ta : TA) : TI := fun σ H R => ta σ H fun vs H1 => ∃ t1 t2 a b xs ys, vs = [.ref a, .ref b] ∧ SqS K H1 t1 a xs ∧ SqS K H1 t2 b ys ∧ R (ItzS K t1 t2 a b) H1
theorem five_new {n c : Addr} (h : c ∈ [n + 4, n + 2, n + 3, n, n + 1]) : n ≤ c := by
  rcases five h with e | e | e | e | e <;> subst e
  · exact Nat.le_add_right _ _
  · exact Nat.le_add_right _ _
  · exact Nat.le_add_right _ _
  · exact Nat.le_refl _
  · exact Nat.le_add_right _ _
theorem pi_zipS {X : Cx} {e e2 : Expr} {ta : TA} {p pos tp : Pos} {es : List Expr} {q : Nat} (hg : Gl X "zip") (hm : X.mg "zip" = none) (ha : PA X [e, e2] ta)
    (hs : starEach [e, e2] X.env = (false, eval e X.env) :: starEach [e2] X.env := by rfl) (hb : (backTo pos (starEach [e2] X.env)).any (·.1) = false := by rfl) :
    PI X (.Tuple es q tp) (.Call (.Name "zip" p) [e, e2] [] pos) (iZipS X.K ta) := by
  refine ⟨fun pins s σ H R I h => Call_ (ld_blt I hg hm PyProof.Rows.boot_zip (PyProof.Rows.callWith_type1 (thn (ha.run pos pins s σ H _ I h) fun us s1 ⟨vs, H1, I1, r1, q1⟩ => ?_) hs hb))⟩
  obtain ⟨t1, t2, a, b, xs, ys, rfl, qx, qy, q⟩ := q1
  obtain ⟨u, us, rfl, ra, r1⟩ : ∃ u us', us = u :: us' ∧ RelV (.ref a) u ∧ Vals [.ref b] us' := by cases r1 with | cons r rr => exact ⟨_, _, rfl, r, rr⟩
  obtain ⟨v, rfl, rb⟩ : ∃ v, us = [v] ∧ RelV (.ref b) v := by cases r1 with | cons r rr => cases rr; exact ⟨_, rfl, r⟩
  cases ra
  cases rb
  obtain ⟨vx, _, p1, l1⟩ := inv_side t1 I1 qx
  obtain ⟨vy, _, p2, l2⟩ := inv_side t2 I1 qy
  refine zip_call p1 p2 fun h' gz gI gO u1 u2 kp => wpAny_pyIter_zip gz ⟨_, _, _, _, H1, rfl, I1.kept (t' := s1.toks) kp, zip_turns (PySem.W.ktu_apart s1.heap.objs.size a b l1 l2), ⟨gz, gI, ⟨_, _, gO⟩, u1, u2⟩, fun c hm => ?_, q⟩
  exact I1.fpOk (five_new hm) (I1.hok.fresh (five_new hm))
/-- a value's items -/
def its (S : Store) : PV → Option (List PV)
  | .lst n => S[n]?
  | .rol xs => some xs
  | .tup xs => some xs
  | _ => none
def isTup : PV → Bool
  | .tup _ => true
  | _ => false
def pairs (xs ys : List PV) : List PV := List.zipWith (fun a b => PV.tup [a, b]) xs ys
theorem pairs_get {xs ys : List PV} {k : Nat} {z : PV} (h : (pairs xs ys)[k]? = some z) : ∃ a b, xs[k]? = some a ∧ ys[k]? = some b ∧ z = .tup [a, b] := by
  unfold pairs at h
  rw [List.getElem?_zipWith] at h
  cases hx : xs[k]? with
  | none => rw [hx] at h; cases h
  | some a =>
    cases hy : ys[k]? with
    | none => rw [hx, hy] at h; cases h
    | some b => rw [hx, hy] at h; exact ⟨a, b, rfl, rfl, (Option.some.inj h).symm⟩
theorem pairs_end {xs ys : List PV} {k : Nat} (h : (pairs xs ys)[k]? = none) : xs.length ≤ k ∨ ys.length ≤ k := by
  unfold pairs at h
  rw [List.getElem?_eq_none_iff, List.length_zipWith] at h
  omega
section
variable {bk : BagKind} {K : PySem.W.Frag} {M : Am} {S : Store} {H : Hp}
theorem its_side {x : PV} {v : V} {xs : List PV} (s : Sto K bk M S H) (r : Rp K bk.root M H x v) (e : its S x = some xs) : ∃ a vs, v = .ref a ∧ SqS K H (isTup x) a vs ∧ Rps K bk.root M H xs vs := by
  cases x <;> first | cases e | skip
  · obtain ⟨a, vs, rfl, fz, rs⟩ := rp_tup r
    exact ⟨a, vs, rfl, fz, rs⟩
  · obtain ⟨a, ea, rfl⟩ := rp_lst r
    obtain ⟨vs, eh, rs⟩ := s.lst ea e
    exact ⟨a, vs, rfl, SqL.of eh, rs⟩
  · obtain ⟨a, vs, rfl, fz, rs⟩ := rp_rol r
    exact ⟨a, vs, rfl, fz.sq, rs⟩
theorem itok_zip {M1 : Am} {S1 : Store} {H1 : Hp} {x y : PV} {a b : Addr} {xs ys : List PV} (s1 : Sto K bk M1 S1 H1) (rx : Rp K bk.root M1 H1 x (.ref a)) (ry : Rp K bk.root M1 H1 y (.ref b)) :
    ItOk bk K ⟨pairs xs ys, fun S => its S x = some xs ∧ its S y = some ys⟩ (ItzS K (isTup x) (isTup y) a b) M1 H1 := fun M S H k t s ck => by
  obtain ⟨a', vs, ea, qx, rxs⟩ := its_side s (rx.step s1 t) ck.1
  obtain ⟨b', ws, eb, qy, rys⟩ := its_side s (ry.step s1 t) ck.2
  cases ea
  cases eb
  refine ⟨fun z e => ?_, fun e => ⟨vs, ws, qx, qy, ?_⟩⟩
  · obtain ⟨p, q, ep, eq, rfl⟩ := pairs_get e
    obtain ⟨u, eu, ru⟩ := rxs.get ep
    obtain ⟨v, ev, rv⟩ := rys.get eq
    refine ⟨⟨vs, ws, u, v, qx, qy, eu, ev⟩, fun v' H' yl => ?_⟩
    obtain ⟨T, p', q', rfl, hT, rfl, f1, f2⟩ := yl
    have g1 := f1 vs qx
    have g2 := f2 ws qy
    rw [eu] at g1
    rw [ev] at g2
    obtain rfl := Option.some.inj g1
    obtain rfl := Option.some.inj g2
    exact ⟨Step.laid hT, s.laid hT, to_tup (SqT.of upd_same) ((Rps.cons ru (.cons rv .nil)).step s (Step.laid hT))⟩
  · rw [rxs.length, rys.length]
    exact pairs_end e
end
def iZip (f g : PTE) : PTI := fun E ρ S R => f E ρ S fun x S1 => g E ρ S1 fun y S2 => onO (its S2 x) fun xs => onO (its S2 y) fun ys => R ⟨pairs xs ys, fun S => its S x = some xs ∧ its S y = some ys⟩ S2
instance {f g : PTE} [MoE f] [MoE g] : MoI (iZip f g) := ⟨fun h q => MoE.mo (f := f) (fun x _ q => MoE.mo (f := g) (fun y _ q => onO_mo (fun _ q => onO_mo (fun _ q => h _ _ q) q) q) q) q⟩
theorem qi_zip {bk : BagKind} {X : Cx} {h h2 : PTE} {a b : Expr} {p pos tp : Pos} {es : List Expr} {c : Nat} (hg : Gl X "zip") (hm : X.mg "zip" = none) (ha : QE bk X a h) (hb : QE bk X b h2)
    (he : starEach [a, b] X.env = (false, eval a X.env) :: starEach [b] X.env := by rfl) (he2 : starEach (b :: []) X.env = (false, eval b X.env) :: starEach [] X.env := by rfl) (hbk : (backTo pos (starEach [b] X.env)).any (·.1) = false := by rfl) :
    QI bk X (.Tuple es c tp) (.Call (.Name "zip" p) [a, b] [] pos) (iZip h h2) := by
  obtain ⟨ta, pa, wa⟩ := ha.ex
  obtain ⟨tb, pb, wb⟩ := hb.ex
  refine ⟨_, pi_zipS hg hm (pa_cons pa (pa_cons pb pa_nil he2) he) he hbk, fun E M ρ S σ H R R' rel q k => ?_⟩
  refine wa E M ρ S σ H _ _ rel q fun M1 S1 H1 x v t1 s1 r1 q1 => ?_
  refine wb E M1 ρ S1 σ H1 _ _ (rel.step t1 s1) q1 fun M2 S2 H2 y w t2 s2 r2 q2 => ?_
  obtain ⟨xs, ex, q2⟩ := onO_ex q2
  obtain ⟨ys, ey, q2⟩ := onO_ex q2
  have r1' := r1.step s1 t2
  obtain ⟨a, vs, rfl, qx, _⟩ := its_side s2 r1' ex
  obtain ⟨b, ws, rfl, qy, _⟩ := its_side s2 r2 ey
  exact ⟨_, _, a, b, vs, ws, rfl, qx, qy, k M2 S2 H2 _ _ (t1.trans t2) s2 (itok_zip s2 r1' r2) q2⟩
end L2.P3
/-! sums, choices, differences, the engine's line -/
namespace L2.P3
open PySem PySem.Spec PyProof.Rows

/-! ### sums over places -/
def sig : Nat → (Nat → Rat) → Rat
  | 0, _ => 0
  | n + 1, f => sig n f + f n
theorem sig_congr {f g : Nat → Rat} : ∀ {n : Nat}, (∀ i, i < n → f i = g i) → sig n f = sig n g
  | 0, _ => rfl
  | n + 1, h => by rw [sig, sig, sig_congr fun i hi => h i (by omega), h n (by omega)]
theorem sig_add (f g : Nat → Rat) : ∀ n : Nat, sig n (fun i => f i + g i) = sig n f + sig n g
  | 0 => by rw [sig, sig, sig]; grind
  | n + 1 => by rw [sig, sig, sig, sig_add f g n]; grind
theorem sig_mul (c : Rat) (f : Nat → Rat) : ∀ n : Nat, sig n (fun i => c * f i) = c * sig n f
  | 0 => by simp [sig]
  | n + 1 => by rw [sig, sig, sig_mul c f n]; grind
theorem sig_zero : ∀ n : Nat, sig n (fun _ => 0) = 0
  | 0 => rfl
  | n + 1 => by rw [sig, sig_zero n]; grind
theorem sig_front (f : Nat → Rat) : ∀ n : Nat, sig (n + 1) f = f 0 + sig n (fun i => f (i + 1))
  | 0 => by rw [sig, sig, sig]; grind
  | n + 1 => by
    have h := sig_front f n
    rw [show sig (n + 1 + 1) f = sig (n + 1) f + f (n + 1) from rfl, h, show sig (n + 1) (fun i => f (i + 1)) = sig n (fun i => f (i + 1)) + f (n + 1) from rfl]
    grind
theorem sig_sub (f g : Nat → Rat) : ∀ n : Nat, sig n (fun i => f i - g i) = sig n f - sig n g
  | 0 => by rw [sig, sig, sig]; grind
  | n + 1 => by rw [sig, sig, sig, sig_sub f g n]; grind

/-! ### choices -/
/-- n (n - 1) .. (n - j + 1) -/
def ffall (n : Int) : Nat → Int
  | 0 => 1
  | j + 1 => ffall n j * (n - j)
def facti : Nat → Int
  | 0 => 1
  | j + 1 => facti j * (j + 1)
theorem facti_pos : ∀ j : Nat, 0 < facti j
  | 0 => by decide
  | j + 1 => Int.mul_pos (facti_pos j) (by omega)
theorem ffall_front (n : Int) : ∀ j : Nat, ffall (n + 1) (j + 1) = (n + 1) * ffall n j
  | 0 => by simp [ffall]
  | j + 1 => by
    rw [ffall, ffall_front n j, ffall]
    have : n + 1 - ((j + 1 : Nat) : Int) = n - j := by omega
    rw [this]; grind
theorem ffall_diff (n : Int) (j : Nat) : ffall (n + 1) (j + 1) = ffall n (j + 1) + (j + 1) * ffall n j := by
  rw [ffall_front, ffall]; grind
theorem ffall_zero : ∀ j : Nat, ffall 0 (j + 1) = 0
  | 0 => by decide
  | j + 1 => by rw [ffall, ffall_zero j]; simp
theorem int_all {P : Int → Prop} (h0 : P 0) (up : ∀ n, P n → P (n + 1)) (down : ∀ n, P (n + 1) → P n) (n : Int) : P n := by
  have h1 : ∀ k : Nat, P (k : Int) := fun k => by
    induction k with
    | zero => exact h0
    | succ k ih => exact up _ ih
  have h2 : ∀ k : Nat, P (-(k : Int)) := fun k => by
    induction k with
    | zero => exact h0
    | succ k ih =>
      refine down _ ?_
      rw [show (-((k + 1 : Nat) : Int)) + 1 = -(k : Int) by omega]
      exact ih
  rcases Int.le_total 0 n with h | h
  · have := h1 n.toNat; rwa [Int.toNat_of_nonneg h] at this
  · have := h2 (-n).toNat; rwa [Int.toNat_of_nonneg (by omega), Int.neg_neg] at this
theorem fact_dvd (j : Nat) : ∀ n : Int, facti j ∣ ffall n j := by
  induction j with
  | zero => exact fun n => ⟨ffall n 0, by simp [facti]⟩
  | succ j ih =>
    have step : ∀ n : Int, facti (j + 1) ∣ (j + 1) * ffall n j := fun n => by
      obtain ⟨c, hc⟩ := ih n
      exact ⟨c, by rw [hc, facti]; grind⟩
    refine int_all ?_ (fun n h => ?_) (fun n h => ?_)
    · rw [ffall_zero]; exact Int.dvd_zero _
    · rw [ffall_diff]; exact Int.dvd_add h (step n)
    · rw [ffall_diff] at h; exact (Int.dvd_add_left (step n)).mp h
/-- the number of choices, for whole n of either sign -/
def bin (n : Int) (j : Nat) : Int := ffall n j / facti j
theorem bin_mul (n : Int) (j : Nat) : facti j * bin n j = ffall n j := Int.mul_ediv_cancel' (fact_dvd j n)
theorem bin_next (n : Int) (j : Nat) : (j + 1) * bin n (j + 1) = bin n j * (n - j) := by
  have h1 := bin_mul n (j + 1)
  have h2 := bin_mul n j
  have h3 := facti_pos j
  rw [facti, ffall, ← h2] at h1
  have : facti j * ((j + 1) * bin n (j + 1)) = facti j * (bin n j * (n - j)) := by grind
  exact Int.eq_of_mul_eq_mul_left (by omega) this
theorem bin_pascal (n : Int) (j : Nat) : bin (n + 1) (j + 1) = bin n (j + 1) + bin n j := by
  have h1 := bin_mul (n + 1) (j + 1)
  have h2 := bin_mul n j
  have h3 := bin_mul n (j + 1)
  have h4 := facti_pos (j + 1)
  rw [ffall_diff, ← h3, ← h2, facti] at h1
  have h5 : facti (j + 1) * bin (n + 1) (j + 1) = facti (j + 1) * (bin n (j + 1) + bin n j) := by rw [facti]; grind
  exact Int.eq_of_mul_eq_mul_left (by omega) h5
theorem bin_zero (n : Int) : bin n 0 = 1 := by simp [bin, ffall, facti]
theorem bin_zero_succ (j : Nat) : bin 0 (j + 1) = 0 := by rw [bin, ffall_zero]; simp
/-- one turn of the loop -/
theorem bin_step (n : Int) (j : Nat) : (bin n j * (n - j)).fdiv (j + 1) = bin n (j + 1) := by
  rw [← bin_next, Int.fdiv_eq_ediv_of_nonneg _ (by omega), Int.mul_ediv_cancel_left _ (by omega)]
theorem bin_whole (n : Int) (j : Nat) : (ffall n j).fdiv (facti j) = bin n j := by
  have := facti_pos j
  rw [Int.fdiv_eq_ediv_of_nonneg _ (by omega)]; rfl
/-- below 0 -/
theorem ffall_neg (n : Int) : ∀ j : Nat, ffall n j = (-1) ^ j * ffall (j - n - 1) j
  | 0 => by simp [ffall]
  | j + 1 => by
    have h1 : ffall (((j + 1 : Nat) : Int) - n - 1) (j + 1) = (((j + 1 : Nat) : Int) - n - 1) * ffall (j - n - 1) j := by
      have := ffall_front (j - n - 1) j
      rw [show (j : Int) - n - 1 + 1 = ((j + 1 : Nat) : Int) - n - 1 by omega] at this
      exact this
    rw [h1, ffall, ffall_neg n j, Int.pow_succ, show ((j + 1 : Nat) : Int) - n - 1 = j - n by omega]
    grind
theorem bin_neg (n : Int) (j : Nat) : bin n j = (-1) ^ j * bin (j - n - 1) j := by
  have h1 := bin_mul n j
  have h2 := bin_mul (j - n - 1) j
  have h3 := facti_pos j
  rw [ffall_neg, ← h2] at h1
  refine Int.eq_of_mul_eq_mul_left (a := facti j) (by omega) ?_
  rw [h1]; grind
theorem sz_ffall {B : Nat} {n : Int} (hn : Sz B n) {k : Nat} (hk : Sz B (k : Int)) : ∀ j : Nat, j ≤ k → Sz ((B + 1) * j + 1) (ffall n j)
  | 0, _ => sz_one (by omega)
  | j + 1, h => by
    have hj : Sz B (j : Int) := by
      unfold Sz at *; omega
    have := (sz_ffall hn hk j (by omega)).mul (hn.sub hj (Nat.le_refl _) (Nat.le_refl _))
    rw [ffall]
    exact this.mono (by rw [Nat.mul_add]; omega)
theorem sz_bin {B : Nat} {n : Int} (hn : Sz B n) {k : Nat} (hk : Sz B (k : Int)) (j : Nat) (h : j ≤ k) : Sz ((B + 1) * j + 1) (bin n j) := (sz_ffall hn hk j h).ediv

/-! ### differences; the polynomial through numbers -/
/-- the j-th difference -/
def dif : Nat → (Int → Rat) → Int → Rat
  | 0, f => f
  | j + 1, f => dif j (fun x => f (x + 1) - f x)
theorem dif_next : ∀ (j : Nat) (f : Int → Rat) (x : Int), dif (j + 1) f x = dif j f (x + 1) - dif j f x
  | 0, f, x => rfl
  | j + 1, f, x => by
    rw [dif, dif_next j, dif]
/-- the sum of choices times numbers -/
def lin (n : Nat) (c : Nat → Rat) (x : Int) : Rat := sig n fun j => (bin x j : Rat) * c j
theorem bin_lin (n : Nat) (c : Nat → Rat) (x : Int) : lin (n + 1) c (x + 1) = lin (n + 1) c x + lin n (fun j => c (j + 1)) x := by
  unfold lin
  rw [sig_front, sig_front, ← sig_congr (f := fun i => ((bin x (i + 1) : Rat) * c (i + 1)) + ((bin x i : Rat) * c (i + 1))), sig_add, bin_zero, bin_zero]
  · grind
  · intro i _
    rw [bin_pascal, Rat.intCast_add]; grind
theorem lin_zero (n : Nat) (c : Nat → Rat) : lin (n + 1) c 0 = c 0 := by
  unfold lin
  rw [sig_front, sig_congr (g := fun _ => 0), sig_zero, bin_zero]
  · have : ((1 : Int) : Rat) = 1 := rfl
    rw [this]; grind
  · intro i _
    rw [bin_zero_succ]; simp
/-- a polynomial is the sum of choices of its differences -/
theorem newton_all : ∀ (n : Nat) (f : Int → Rat), (∀ x, dif n f x = 0) → ∀ x, lin n (fun j => dif j f 0) x = f x
  | 0, f, h, x => by
    rw [show lin 0 (fun j => dif j f 0) x = 0 from rfl]; exact (h x).symm
  | n + 1, f, h, x => by
    have ih := newton_all n (fun x => f (x + 1) - f x) h
    have st : ∀ x, lin (n + 1) (fun j => dif j f 0) (x + 1) = lin (n + 1) (fun j => dif j f 0) x + (f (x + 1) - f x) := fun x => by
      rw [bin_lin, ← ih x]; rfl
    refine int_all (P := fun x => lin (n + 1) (fun j => dif j f 0) x = f x) (lin_zero n _) (fun x h => ?_) (fun x h => ?_) x
    · rw [st, h]; grind
    · rw [st] at h; grind
/-- at the numbers themselves -/
theorem newton_at : ∀ (i n : Nat) (f : Int → Rat), i < n → lin n (fun j => dif j f 0) i = f i
  | 0, n + 1, f, _ => lin_zero n _
  | i + 1, n + 1, f, h => by
    rw [show ((i + 1 : Nat) : Int) = (i : Int) + 1 by omega, bin_lin, newton_at i (n + 1) f (by omega)]
    have := newton_at i n (fun x => f (x + 1) - f x) (by omega)
    rw [show lin n (fun j => dif (j + 1) f 0) (i : Int) = lin n (fun j => dif j (fun x => f (x + 1) - f x) 0) (i : Int) from rfl, this]
    grind
/-- the choices of a fraction -/
def nb (x : Rat) : Nat → Rat
  | 0 => 1
  | j + 1 => nb x j * (x - j) / (j + 1)
theorem nb_bin (n : Int) : ∀ j : Nat, nb (n : Rat) j = bin n j
  | 0 => by rw [nb, bin_zero]; rfl
  | j + 1 => by
    have h := bin_next n j
    have h2 : ((j + 1 : Rat)) * (bin n (j + 1) : Rat) = (bin n j : Rat) * ((n : Rat) - j) := by
      have := congrArg (fun z : Int => (z : Rat)) h
      simp only [Rat.intCast_mul, Rat.intCast_sub, Rat.intCast_add] at this
      exact_mod_cast this
    have h3 : ((j : Rat) + 1) ≠ 0 := by
      have : (0 : Rat) ≤ (j : Rat) := by exact_mod_cast Nat.zero_le j
      grind
    rw [nb, nb_bin n j]
    grind
theorem dif_const_mul (c : Rat) : ∀ (n : Nat) (f : Int → Rat) (x : Int), dif n (fun y => c * f y) x = c * dif n f x
  | 0, f, x => rfl
  | n + 1, f, x => by rw [dif_next, dif_const_mul c n, dif_const_mul c n, dif_next]; grind
theorem dif_add : ∀ (n : Nat) (f g : Int → Rat) (x : Int), dif n (fun y => f y + g y) x = dif n f x + dif n g x
  | 0, f, g, x => rfl
  | n + 1, f, g, x => by rw [dif_next, dif_add n, dif_add n, dif_next, dif_next]; grind
theorem dif_none : ∀ (n : Nat) (x : Int), dif n (fun _ => 0) x = 0
  | 0, x => rfl
  | n + 1, x => by rw [dif_next, dif_none n, dif_none n]; grind
theorem dif_more {n : Nat} {f : Int → Rat} (h : ∀ x, dif n f x = 0) : ∀ {m : Nat}, n ≤ m → ∀ x, dif m f x = 0
  | 0, hm, x => by
    have : n = 0 := by omega
    subst this; exact h x
  | m + 1, hm, x => by
    by_cases e : n = m + 1
    · subst e; exact h x
    · rw [dif_next, dif_more h (m := m) (by omega), dif_more h (m := m) (by omega)]; grind
/-- a factor more raises the degree by one -/
theorem dif_factor (a b : Rat) : ∀ (n : Nat) (f : Int → Rat), (∀ x, dif n f x = 0) → ∀ (b : Rat) (x : Int), dif (n + 1) (fun y => (a * (y : Rat) + b) * f y) x = 0
  | 0, f, h, b, x => by
    have h0 : ∀ x, f x = 0 := h
    show (a * ((x + 1 : Int) : Rat) + b) * f (x + 1) - (a * (x : Rat) + b) * f x = 0
    rw [h0, h0]; grind
  | n + 1, f, h, b, x => by
    have ih := dif_factor a a n (fun y => f (y + 1) - f y) h (b + a) x
    show dif (n + 1) (fun y => (a * ((y + 1 : Int) : Rat) + b) * f (y + 1) - (a * (y : Rat) + b) * f y) x = 0
    have e : (fun y : Int => (a * ((y + 1 : Int) : Rat) + b) * f (y + 1) - (a * (y : Rat) + b) * f y) = fun y : Int => (a * (y : Rat) + (b + a)) * (f (y + 1) - f y) + a * f y := by
      funext y
      rw [Rat.intCast_add]
      have : ((1 : Int) : Rat) = 1 := rfl
      rw [this]; grind
    rw [e, dif_add, ih, dif_const_mul, h]; grind
theorem nb_killed (m : Rat) : ∀ (j : Nat) (x : Int), dif (j + 1) (fun y => nb ((y : Rat) * m) j) x = 0
  | 0, x => by
    show (nb (((x + 1 : Int) : Rat) * m) 0) - nb ((x : Rat) * m) 0 = 0
    rw [nb, nb]; grind
  | j + 1, x => by
    have ih := nb_killed m j
    have := dif_factor (m / (j + 1)) 0 (j + 1) (fun y => nb ((y : Rat) * m) j) ih (-(j : Rat) / (j + 1)) x
    have e : (fun y : Int => nb ((y : Rat) * m) (j + 1)) = fun y : Int => (m / (j + 1) * (y : Rat) + -(j : Rat) / (j + 1)) * nb ((y : Rat) * m) j := by
      funext y
      rw [nb]
      have h3 : ((j : Rat) + 1) ≠ 0 := by
        have : (0 : Rat) ≤ (j : Rat) := by exact_mod_cast Nat.zero_le j
        grind
      grind
    rw [e]; exact this
/-- the polynomial with these differences, at a fraction -/
def npol (n : Nat) (c : Nat → Rat) (x : Rat) : Rat := sig n fun j => c j * nb x j
theorem npol_killed (c : Nat → Rat) (m : Rat) : ∀ (n : Nat) (x : Int), dif n (fun y => npol n c ((y : Rat) * m)) x = 0
  | 0, x => rfl
  | n + 1, x => by
    have e : (fun y : Int => npol (n + 1) c ((y : Rat) * m)) = fun y : Int => npol n c ((y : Rat) * m) + c n * nb ((y : Rat) * m) n := rfl
    rw [e, dif_add, dif_const_mul, nb_killed, dif_more (npol_killed c m n) (Nat.le_succ n)]; grind
end L2.P3

/-! ### numbers over one divisor -/
namespace L2.P3
open PySem PySem.Spec PyProof.Rows
def CD (D : Int) (N : Nat) (x : Rat) : Prop := ∃ a : Int, x * (D : Rat) = (a : Rat) ∧ Sz N a
section
variable {D E : Int} {N M : Nat} {x y : Rat}
theorem CD.mono (h : CD D N x) (l : N ≤ M) : CD D M x := let ⟨a, e, s⟩ := h; ⟨a, e, s.mono l⟩
theorem CD.add {c : Nat} (h : CD D N x) (h' : CD D M y) (l1 : N ≤ c) (l2 : M ≤ c) : CD D (c + 1) (x + y) := by
  obtain ⟨a, e, s⟩ := h
  obtain ⟨b, e', s'⟩ := h'
  exact ⟨a + b, by rw [Rat.intCast_add]; grind, s.add s' l1 l2⟩
theorem CD.sub {c : Nat} (h : CD D N x) (h' : CD D M y) (l1 : N ≤ c) (l2 : M ≤ c) : CD D (c + 1) (x - y) := by
  obtain ⟨a, e, s⟩ := h
  obtain ⟨b, e', s'⟩ := h'
  exact ⟨a - b, by rw [Rat.intCast_sub]; grind, s.sub s' l1 l2⟩
theorem CD.mul (h : CD D N x) (h' : CD E M y) : CD (D * E) (N + M) (x * y) := by
  obtain ⟨a, e, s⟩ := h
  obtain ⟨b, e', s'⟩ := h'
  exact ⟨a * b, by rw [Rat.intCast_mul, Rat.intCast_mul]; grind, s.mul s'⟩
theorem CD.up (h : CD D N x) (hE : Sz M E) : CD (D * E) (N + M) x := by
  obtain ⟨a, e, s⟩ := h
  exact ⟨a * E, by rw [Rat.intCast_mul, Rat.intCast_mul]; grind, s.mul hE⟩
theorem CD.int {i : Int} (h : Sz N i) : CD 1 N (i : Rat) := ⟨i, by have : ((1 : Int) : Rat) = 1 := rfl; rw [this]; grind, h⟩
theorem CD.zero (D : Int) (N : Nat) : CD D N 0 := ⟨0, by have : ((0 : Int) : Rat) = 0 := rfl; rw [this]; grind, by unfold Sz; exact Nat.pow_pos (by decide)⟩
theorem CD.rs {K : Nat} (h : CD D N x) (hD : 0 < D) (sD : Sz K D) (l : N ≤ K) : RS K x := by
  obtain ⟨a, e, s⟩ := h
  have hd : (D : Rat) ≠ 0 := by
    intro z
    have : D = 0 := by exact_mod_cast z
    omega
  have : x = Rat.divInt a D := by
    rw [Rat.divInt_eq_div, ← e]
    grind
  rw [this]
  exact rs_divInt (by omega) (s.mono l) sD
theorem CD.sig {f : Nat → Rat} : ∀ {k : Nat}, (∀ i, i < k → CD D N (f i)) → CD D (N + k) (sig k f)
  | 0, _ => CD.zero D _
  | k + 1, h => (CD.sig fun i hi => h i (by omega)).add (h k (by omega)) (Nat.le_refl _) (Nat.le_add_right _ _)
theorem CD.dif {f : Int → Rat} : ∀ {j k : Nat}, (∀ i : Nat, i < k + j → CD D N (f i)) → ∀ i : Nat, i < k → CD D (N + j) (dif j f i)
  | 0, k, h, i, hi => h i hi
  | j + 1, k, h, i, hi => by
    rw [dif_next]
    have h1 := CD.dif (j := j) (k := k + 1) (fun i hi => h i (by omega)) i (by omega)
    have h2 := CD.dif (j := j) (k := k + 1) (fun i hi => h i (by omega)) (i + 1) (by omega)
    exact h2.sub h1 (Nat.le_refl _) (Nat.le_refl _)
end
theorem sz_above {a b : Int} {x : Rat} {n m : Nat} (hb : 0 < b) (e : Rat.divInt a b = x) (hx : RS n x) (s : Sz m b) : Sz (n + m) a := by
  have h1 : a * (x.den : Int) = x.num * b := by
    have hd : (b : Rat) ≠ 0 := by
      intro z
      have : b = 0 := by exact_mod_cast z
      omega
    have h3 : (a : Rat) = x * b := by
      rw [← e, Rat.divInt_eq_div]; grind
    have hx0 : (x.den : Rat) ≠ 0 := by
      intro z
      have : x.den = 0 := by exact_mod_cast z
      exact x.den_nz this
    have h4 : x * (x.den : Rat) = (x.num : Rat) := by
      have := Rat.num_divInt_den x
      rw [Rat.divInt_eq_div] at this
      have h6 : (((x.den : Nat) : Int) : Rat) = (x.den : Rat) := rfl
      rw [h6] at this
      grind
    have h5 : (a : Rat) * (x.den : Rat) = (x.num : Rat) * (b : Rat) := by rw [h3, ← h4]; grind
    exact_mod_cast h5
  have h2 : Sz (n + m) (a * (x.den : Int)) := by rw [h1]; exact hx.1.mul s
  unfold Sz at *
  rw [Int.natAbs_mul] at h2
  have h3 : 1 ≤ (x.den : Int).natAbs := by have := x.den_pos; omega
  exact Nat.lt_of_le_of_lt (Nat.le_mul_of_pos_right _ h3) h2

/-! ### lists of fractions; comprehensions place by place -/
def frl (k : Nat) (f : Nat → Rat) : List PV := (List.range k).map fun i => fr (f i)
def nms (k : Nat) (f : Nat → Int) : List PV := (List.range k).map fun i => PV.int (f i)
theorem frs_len {k : Nat} {f : Nat → Rat} : (frl k f).length = k := by simp [frl]
theorem nms_len {k : Nat} {f : Nat → Int} : (nms k f).length = k := by simp [nms]
theorem frs_at {k i : Nat} {f : Nat → Rat} (h : i < k) : atI (frl k f) (i : Int) = some (fr (f i)) := atI_range h
theorem nms_at {k i : Nat} {f : Nat → Int} (h : i < k) : atI (nms k f) (i : Int) = some (.int (f i)) := atI_range h
theorem frs_next {k : Nat} {f : Nat → Rat} : frl (k + 1) f = frl k f ++ [fr (f k)] := by unfold frl; rw [List.range_succ, List.map_append]; rfl
theorem nms_next {k : Nat} {f : Nat → Int} : nms (k + 1) f = nms k f ++ [.int (f k)] := by unfold nms; rw [List.range_succ, List.map_append]; rfl
theorem frs_congr {k : Nat} {f g : Nat → Rat} (h : ∀ i, i < k → f i = g i) : frl k f = frl k g := by
  unfold frl
  exact List.map_congr_left fun i hi => by rw [h i (List.mem_range.mp hi)]
theorem frs_dats {n k : Nat} {f : Nat → Rat} : dats true (n + 1) (frl k f) = true := dats_mem.mpr fun x hx => by
  obtain ⟨i, _, rfl⟩ := List.mem_map.mp hx
  exact dat_fr
theorem frs_belows {n k : Nat} {f : Nat → Rat} : belows n (frl k f) = true := dats_belowN (frs_dats (n := 0))
theorem nms_dats {n k : Nat} {f : Nat → Int} : dats true n (nms k f) = true := dats_mem.mpr fun x hx => by
  obtain ⟨i, _, rfl⟩ := List.mem_map.mp hx
  cases n <;> rfl
theorem nms_belows {n k : Nat} {f : Nat → Int} : belows n (nms k f) = true := dats_belowN (nms_dats (n := 0))
theorem pLcL_pts {chk : Store → Prop} {g : PTG} {tt : PTT} {te : PTE} {E : XW} {ρ0 : PEnv} {Q : PQ} {S : Store} (hc : ∀ acc, chk (S ++ [acc])) :
    ∀ (xs ys acc : List PV), xs.length = ys.length → (∀ (i : Nat) x y, xs[i]? = some x → ys[i]? = some y → ∀ acc Qk, Qk (some y) (S ++ [acc]) → lcStep g tt te E ρ0 x (S ++ [acc]) Qk) → acc.length + xs.length ≤ 16777216 → Q (.lst S.length) (S ++ [acc ++ ys]) →
      pLcL chk g tt te E ρ0 S.length Q xs (S ++ [acc])
  | [], [], acc, _, _, _, q => ⟨hc acc, by simpa using q⟩
  | [], y :: ys, acc, h, _, _, _ => by cases h
  | x :: xs, [], acc, h, _, _, _ => by cases h
  | x :: xs, y :: ys, acc, hn, h, hl, q => by
    simp only [List.length_cons] at hl hn
    refine ⟨hc acc, h 0 x y rfl rfl acc (fun o S' => match o with
      | some y => onO S'[S.length]? fun a => a.length < 16777216 ∧ pLcL chk g tt te E ρ0 S.length Q xs (S'.set S.length (a ++ [y]))
      | none => pLcL chk g tt te E ρ0 S.length Q xs S') ?_⟩
    refine onO_of (x := acc) (by simp) ⟨by omega, ?_⟩
    have e2 : (S ++ [acc]).set S.length (acc ++ [y]) = S ++ [acc ++ [y]] := by simp
    rw [e2]
    exact pLcL_pts hc xs ys (acc ++ [y]) (by omega) (fun i a b ea eb => h (i + 1) a b (by simpa using ea) (by simpa using eb)) (by simp; omega) (by simpa using q)
/-- over numbered things -/
theorem pLcL_rng {chk : Store → Prop} {g : PTG} {tt : PTT} {te : PTE} {E : XW} {ρ0 : PEnv} {Q : PQ} {S : Store} {k : Nat} {a : Nat → PV} (b : Nat → PV) (hc : ∀ acc, chk (S ++ [acc])) (hk : k ≤ 1000000)
    (h : ∀ i, i < k → ∀ acc Qk, Qk (some (b i)) (S ++ [acc]) → lcStep g tt te E ρ0 (a i) (S ++ [acc]) Qk) (q : Q (.lst S.length) (S ++ [(List.range k).map b])) : pLcL chk g tt te E ρ0 S.length Q ((List.range k).map a) (S ++ [[]]) := by
  refine pLcL_pts hc _ ((List.range k).map b) [] (by simp) (fun i x y ea eb => ?_) (by simp; omega) (by simpa using q)
  have hi : i < k := by
    have := (List.getElem?_eq_some_iff.mp ea).1
    simpa using this
  rw [List.getElem?_map, List.getElem?_range hi] at ea eb
  cases ea
  cases eb
  exact h i hi
end L2.P3
/-! tuple * 1; draws into lists -/
namespace L2.P3
open PySem PySem.Spec PyProof.Rows L2
theorem once_meets (l : Addr) (us : Array Value) (n : Nat) (dd : Option Addr) (sl : Array (Option Value)) (u : Tok) :
    Meets (Builtin.«tuple.__mul__» ⟨[.ref l, .int 1 u], []⟩) (fun _ R s => s.heap.get? l = some { cls := .type "tuple", dict := dd, data := .seq us n, slots := sl } ∧ R (.ok (.ret (.ref l))) s) :=
  .of_wp fun prog w A R s q => by
    obtain ⟨hp, gl, dt, tk, oss⟩ := s
    obtain ⟨e, q⟩ := q
    have ix := AutoSeq1.idx_int
    wp_walk using wpAny_loadPart' e
    exact ⟨_, rfl, q⟩
def rOnce (K : PySem.W.Frag) : R2 := fun x y H Q => ∃ l xs, x = .ref l ∧ y = .int 1 ∧ SqT K H l xs ∧ Q (.ref l) H
theorem op_once {X : Cx} : OpR X (binaryOp .Mult) (rOnce X.K) := by
  intro pins s σ H x y v u Q I rx ry h
  obtain ⟨l, xs, rfl, rfl, hT, q⟩ := h
  cases rx
  obtain ⟨t, rfl⟩ := ry
  obtain ⟨us, r, ⟨⟨cls, dd, data, sl⟩, e, hc, n, hd⟩, hs⟩ := I.tuple hT
  simp only at hc hd
  subst hc hd
  exact wpAny_binaryOp_repeat_ref (T := "tuple") (U := "int") (by decide) ⟨_, e, rfl⟩ (fun s' => typeIs_int s' 1 t) noFill_tuple_mul F.fills_int_mul F.slot_int_rmul repeat_tuple F.slot_int_index.lookup
    (call_meets F.slot_int_rmul (typeIs_int s 1 t) F.entry_int_rmul (F.args_int_rmul_2 _ _) (int_rmul_tuple 1 t l us.toArray n dd sl)
      ⟨e, rfl, ⟨_, e, rfl⟩, call_meets F.slot_tuple_mul ⟨_, e, rfl⟩ F.entry_tuple_mul (F.args_tuple_mul_2 _ _) (once_meets l us.toArray n dd sl t) ⟨e, ⟨.ref l, H, I, rfl, q⟩⟩⟩)
def oMulT : PO2 := fun x y S Q => match x, y with
  | .int i, .int j => MulOk i j ∧ Q (.int (i * j)) S
  | .tup xs, .int k => (xs ≠ [] ∧ 1 ≤ k ∧ k ≤ 1000 ∧ xs.length ≤ 1000) ∧ Q (.tup (List.replicate k.toNat xs).flatten) S
  | _, _ => False
instance : Mo2 oMulT := ⟨fun h q => by
  unfold oMulT at q ⊢
  split at q <;> first | exact ⟨q.1, h _ _ q.2⟩ | exact q.elim⟩
def rMulT (K : PySem.W.Frag) : R2 := fun x y H Q => rI MulOk (fun i j => .int (i * j)) x y H Q ∨ rRepT K x y H Q ∨ rOnce K x y H Q
theorem op_mulT {X : Cx} : OpR X (binaryOp .Mult) (rMulT X.K) := op_mulX.or (op_repT.or op_once)
theorem oMulTP {bk : BagKind} {K : PySem.W.Frag} : OpP bk K (rMulT K) oMulT := fun M S H x y v w Q Q' s r1 r2 q p => by
  unfold oMulT at q
  split at q
  · rw [rp_int r1, rp_int r2]; exact .inl ⟨_, _, rfl, rfl, q.1, p M S H _ _ (.refl M H) s to_int q.2⟩
  · rename_i xs k
    obtain ⟨⟨h1, h2, h3, h4⟩, q⟩ := q
    obtain ⟨a, vs, rfl, ht, s1⟩ := rp_tup r1
    rw [rp_int r2]
    by_cases e : k = 1
    · subst e
      have e2 : (List.replicate (1 : Int).toNat xs).flatten = xs := by
        rw [show (1 : Int).toNat = 1 from rfl, List.replicate_one, List.flatten_cons, List.flatten_nil, List.append_nil]
      rw [e2] at q
      exact .inr (.inr ⟨a, vs, rfl, rfl, ht, p M S H _ _ (.refl M H) s r1 q⟩)
    · exact .inr (.inl ⟨a, _, vs, rfl, rfl, ht, fun e => h1 ((rps_nil_iff s1).mp e), by omega, h3, by rw [s1.length]; exact h4, p.tup s (rps_rep s1 _) q⟩)
  · exact q.elim

/-! ### a comprehension whose items are not known, but held in bounds -/
theorem pLcL_any {chk : Store → Prop} {g : PTG} {tt : PTT} {te : PTE} {E : XW} {ρ0 : PEnv} {Q : PQ} {S : Store} (P : Nat → PV → Prop) (hc : ∀ acc, chk (S ++ [acc])) :
    ∀ (xs acc : List PV) (n : Nat), (∀ (i : Nat) x, xs[i]? = some x → ∀ acc Qk, (∀ y, P (n + i) y → Qk (some y) (S ++ [acc])) → lcStep g tt te E ρ0 x (S ++ [acc]) Qk) → acc.length + xs.length ≤ 16777216 →
      (∀ ys, ys.length = xs.length → (∀ i y, ys[i]? = some y → P (n + i) y) → Q (.lst S.length) (S ++ [acc ++ ys])) → pLcL chk g tt te E ρ0 S.length Q xs (S ++ [acc])
  | [], acc, n, _, _, q => ⟨hc acc, by simpa using q [] rfl (fun i y e => by simp at e)⟩
  | x :: xs, acc, n, h, hl, q => by
    simp only [List.length_cons] at hl
    refine ⟨hc acc, h 0 x rfl acc (fun o S' => match o with
      | some y => onO S'[S.length]? fun a => a.length < 16777216 ∧ pLcL chk g tt te E ρ0 S.length Q xs (S'.set S.length (a ++ [y]))
      | none => pLcL chk g tt te E ρ0 S.length Q xs S') fun y hy => ?_⟩
    refine onO_of (x := acc) (by simp) ⟨by omega, ?_⟩
    have e2 : (S ++ [acc]).set S.length (acc ++ [y]) = S ++ [acc ++ [y]] := by simp
    rw [e2]
    refine pLcL_any P hc xs (acc ++ [y]) (n + 1) (fun i a ea acc Qk hq => h (i + 1) a (by simpa using ea) acc Qk fun z hz => hq z (by rw [Nat.add_assoc, Nat.add_comm 1]; exact hz)) (by simp; omega) fun ys hy2 hys => ?_
    have := q (y :: ys) (by simp [hy2]) fun i z e => by
      cases i with
      | zero => simp at e; subst e; exact hy
      | succ i => have := hys i z (by simpa using e); rw [Nat.add_assoc, Nat.add_comm 1] at this; exact this
    simpa using this
theorem get_fun {α : Type} [Inhabited α] {P : Nat → α → Prop} {c : α → PV} {ys : List PV} (h : ∀ (i : Nat) y, ys[i]? = some y → ∃ z, y = c z ∧ P i z) : ∃ p : Nat → α, ys = (List.range ys.length).map (fun i => c (p i)) ∧ ∀ i, i < ys.length → P i (p i) := by
  have h2 : ∀ i, ∃ z, i < ys.length → ys[i]? = some (c z) ∧ P i z := fun i => by
    by_cases hi : i < ys.length
    · obtain ⟨z, e, hz⟩ := h i ys[i] (by simp [hi])
      exact ⟨z, fun _ => ⟨by rw [← e]; simp [hi], hz⟩⟩
    · exact ⟨default, fun z => absurd z hi⟩
  refine ⟨fun i => Classical.choose (h2 i), ?_, fun i hi => (Classical.choose_spec (h2 i) hi).2⟩
  apply List.ext_getElem?
  intro i
  by_cases hi : i < ys.length
  · rw [(Classical.choose_spec (h2 i) hi).1]; simp [hi]
  · rw [List.getElem?_eq_none (by omega), List.getElem?_eq_none (by simp; omega)]
/-- a list of whole numbers in bounds, drawn one by one -/
theorem pLcL_ints {chk : Store → Prop} {g : PTG} {tt : PTT} {te : PTE} {E : XW} {ρ0 : PEnv} {Q : PQ} {S : Store} (lo hi : Int) (hc : ∀ acc, chk (S ++ [acc])) (xs : List PV)
    (h : ∀ (i : Nat) x, xs[i]? = some x → ∀ acc Qk, (∀ z : Int, lo ≤ z → z ≤ hi → Qk (some (.int z)) (S ++ [acc])) → lcStep g tt te E ρ0 x (S ++ [acc]) Qk) (hl : xs.length ≤ 1000000)
    (q : ∀ p : Nat → Int, (∀ i, i < xs.length → lo ≤ p i ∧ p i ≤ hi) → Q (.lst S.length) (S ++ [nms xs.length p])) : pLcL chk g tt te E ρ0 S.length Q xs (S ++ [[]]) := by
  refine pLcL_any (fun _ y => ∃ z : Int, y = .int z ∧ lo ≤ z ∧ z ≤ hi) hc xs [] 0 (fun i x e acc Qk hq => h i x e acc Qk fun z h1 h2 => hq _ ⟨z, rfl, h1, h2⟩) (by simp; omega) fun ys hy hys => ?_
  obtain ⟨p, e, hp⟩ := get_fun (P := fun _ z => lo ≤ z ∧ z ≤ hi) (c := PV.int) hys
  rw [hy] at e hp
  rw [List.nil_append, e]
  exact q p hp
theorem rs_sig {a : Nat} {f : Nat → Rat} : ∀ {k : Nat}, (∀ i, i < k → RS a (f i)) → RS ((a + 1) * k + 1) (sig k f)
  | 0, _ => ⟨by rw [show (sig 0 f).num = 0 from rfl]; exact sz_pos _, sz_one (by omega)⟩
  | k + 1, h => ((rs_sig (k := k) fun i hi => h i (by omega)).add (h k (by omega))).mono (by rw [Nat.mul_add]; omega)

/-! ### differences of a row -/
def dfn : Nat → (Nat → Rat) → Nat → Rat
  | 0, f, i => f i
  | j + 1, f, i => dfn j f (i + 1) - dfn j f i
def dfz : Nat → (Nat → Int) → Nat → Int
  | 0, f, i => f i
  | j + 1, f, i => dfz j f (i + 1) - dfz j f i
theorem dfz_cast (p : Nat → Int) : ∀ (j i : Nat), ((dfz j p i : Int) : Rat) = dfn j (fun i => (p i : Rat)) i
  | 0, i => rfl
  | j + 1, i => by rw [dfz, dfn, Rat.intCast_sub, dfz_cast p j, dfz_cast p j]
theorem dfn_dif (F : Int → Rat) : ∀ (j i : Nat), dfn j (fun i => F i) i = dif j F i
  | 0, i => rfl
  | j + 1, i => by rw [dif_next, dfn, dfn_dif F j, dfn_dif F j]; rfl
theorem dfn_congr {f g : Nat → Rat} : ∀ {j i k : Nat}, (∀ i, i < k → f i = g i) → i + j < k → dfn j f i = dfn j g i
  | 0, i, k, h, l => h i l
  | j + 1, i, k, h, l => by rw [dfn, dfn, dfn_congr h (by omega), dfn_congr h (by omega)]
theorem sz_dfz {N k : Nat} {p : Nat → Int} (h : ∀ i, i < k → Sz N (p i)) : ∀ (j i : Nat), i + j < k → Sz (N + j) (dfz j p i)
  | 0, i, l => h i l
  | j + 1, i, l => (sz_dfz h j (i + 1) (by omega)).sub (sz_dfz h j i (by omega)) (Nat.le_refl _) (Nat.le_refl _)
theorem cd_dfn {D : Int} {N k : Nat} {f : Nat → Rat} (h : ∀ i, i < k → CD D N (f i)) : ∀ (j i : Nat), i + j < k → CD D (N + j) (dfn j f i)
  | 0, i, l => h i l
  | j + 1, i, l => (cd_dfn h j (i + 1) (by omega)).sub (cd_dfn h j i (by omega)) (Nat.le_refl _) (Nat.le_refl _)
/-- the polynomial through numbers, at a fraction -/
def pthrough (k : Nat) (p : Nat → Int) (x : Rat) : Rat := npol k (fun j => dfn j (fun i => (p i : Rat)) 0) x
/-- its differences at steps of 1 / m -/
def finer (k : Nat) (p : Nat → Int) (m : Int) (j : Nat) : Rat := dfn j (fun i => pthrough k p (Rat.divInt i m)) 0
theorem step_m (i m : Int) : Rat.divInt i m = (i : Rat) * (1 / (m : Rat)) := by rw [Rat.divInt_eq_div]; grind
/-- the finer line is the polynomial -/
theorem finer_line (k : Nat) (p : Nat → Int) (m i : Int) : sig k (fun j => finer k p m j * (bin i j : Rat)) = pthrough k p (Rat.divInt i m) := by
  have h := newton_all k (fun y => npol k (fun j => dfn j (fun i => (p i : Rat)) 0) ((y : Rat) * (1 / (m : Rat)))) (npol_killed _ _ k) i
  rw [step_m]
  unfold pthrough
  rw [← h]
  unfold lin
  refine sig_congr fun j hj => ?_
  unfold finer pthrough
  rw [show (fun i : Nat => npol k (fun j => dfn j (fun i => (p i : Rat)) 0) (Rat.divInt i m)) = fun i : Nat => (fun y : Int => npol k (fun j => dfn j (fun i => (p i : Rat)) 0) ((y : Rat) * (1 / (m : Rat)))) i by
    funext i; rw [step_m]]
  have e3 := dfn_dif (fun y : Int => npol k (fun j => dfn j (fun i => (p i : Rat)) 0) ((y : Rat) * (1 / (m : Rat)))) j 0
  rw [show ((0 : Nat) : Int) = 0 from rfl] at e3
  dsimp only
  rw [e3]
  grind
/-- through the numbers -/
theorem pthrough_at {k i : Nat} (p : Nat → Int) (h : i < k) : pthrough k p (i : Rat) = p i := by
  have h2 := newton_at i k (fun y => (p y.toNat : Rat)) h
  simp only [Int.toNat_natCast] at h2
  rw [← h2]
  unfold pthrough npol lin
  refine sig_congr fun j hj => ?_
  have e := nb_bin (i : Int) j
  rw [show ((i : Int) : Rat) = (i : Rat) from rfl] at e
  rw [e]
  have e2 := dfn_dif (fun y : Int => (p y.toNat : Rat)) j 0
  simp only [Int.toNat_natCast] at e2
  rw [show ((0 : Nat) : Int) = 0 from rfl] at e2
  dsimp only
  rw [e2]
  grind
theorem nb_next (x : Rat) (j : Nat) : nb x (j + 1) = nb x j * ((x + -(j : Rat)) * Rat.divInt 1 ((j : Int) + 1)) := by
  have e : Rat.divInt 1 ((j : Int) + 1) = 1 / ((j : Rat) + 1) := by
    rw [Rat.divInt_eq_div, Rat.intCast_add]; rfl
  rw [nb, e]; grind
/-- a divisor of the choices of i / m -/
def mfall (i m : Int) : Nat → Int
  | 0 => 1
  | j + 1 => mfall i m j * (i - j * m)
theorem cd_nb {i m : Int} {N : Nat} (hm : 0 < m) (sm : Sz N m) : ∀ (K j : Nat), j ≤ K → (∀ j : Nat, j < K → Sz N (i - j * m)) → Sz N (K : Int) → CD (m ^ K * facti K) (2 * N * K + 1) (nb (Rat.divInt i m) j)
  | 0, j, h, _, _ => by
    have : j = 0 := by omega
    subst this
    exact ⟨1, by simp [nb, facti], sz_one (by omega)⟩
  | K + 1, j, h, hi, hK => by
    have hE : Sz (2 * N) (m * (K + 1)) := by
      have := sm.mul hK
      exact this.mono (by omega)
    have hD : m ^ (K + 1) * facti (K + 1) = (m ^ K * facti K) * (m * (K + 1)) := by rw [facti, Int.pow_succ]; grind
    have hK' : Sz N (K : Int) := by unfold Sz at *; omega
    rw [hD]
    by_cases e : j ≤ K
    · exact ((cd_nb hm sm K j e (fun j hj => hi j (by omega)) hK').up hE).mono (by rw [Nat.mul_add]; omega)
    · have : j = K + 1 := by omega
      subst this
      obtain ⟨a, ea, sa⟩ := cd_nb hm sm K K (Nat.le_refl _) (fun j hj => hi j (by omega)) hK'
      refine ⟨a * (i - K * m), ?_, (sa.mul (hi K (by omega))).mono (by rw [Nat.mul_add]; omega)⟩
      have hm0 : (m : Rat) ≠ 0 := by
        intro z
        have : m = 0 := by exact_mod_cast z
        omega
      have h3 : ((K : Rat) + 1) ≠ 0 := by
        have : (0 : Rat) ≤ (K : Rat) := by exact_mod_cast Nat.zero_le K
        grind
      have e1 : (((i - K * m : Int)) : Rat) = (i : Rat) - (K : Rat) * m := by rw [Rat.intCast_sub, Rat.intCast_mul]; rfl
      have e2 : (((m * (K + 1) : Int)) : Rat) = (m : Rat) * ((K : Rat) + 1) := by rw [Rat.intCast_mul, Rat.intCast_add]; rfl
      rw [nb, Rat.intCast_mul (m ^ K * facti K), Rat.intCast_mul a, e1, e2, ← ea, Rat.divInt_eq_div]
      have e4 : (i : Rat) / m * m = i := by grind
      grind
end L2.P3
/-! == and != of data -/
namespace L2.P3
open PySem PySem.Spec PyProof.Rows L2
def allO (f : PV → Option PyData) : List PV → Option (List PyData)
  | [] => some []
  | x :: xs => match f x, allO f xs with
    | some d, some ds => some (d :: ds)
    | _, _ => none
def pscal : PV → Option PyData
  | .non => some .none
  | .bl b => some (.bool b)
  | .int i => some (.int i)
  | .str x => if PyData.canLay0 (.str x) then some (.str x) else none
  | _ => none
/-- a value as data, of nesting up to n -/
def pdat (S : Store) : Nat → PV → Option PyData
  | 0, x => pscal x
  | n + 1, x => match x with
    | .tup xs => (allO (pdat S n) xs).map .tuple
    | .rol xs => (allO (pdat S n) xs).map .list
    | .lst k => S[k]?.bind fun xs => (allO (pdat S n) xs).map .list
    | x => pscal x
section
variable {bk : BagKind} {K : PySem.W.Frag} {M : Am} {S : Store} {H : Hp}
theorem pscal_dp {x : PV} {v : V} {d : PyData} {r : Nat} (h : Rp K r M H x v) (e : pscal x = some d) : Dp K H v d ∧ d.canLay0 = true ∧ d.depth = 0 := by
  cases x <;> simp only [pscal] at e <;> try (cases e)
  · rw [rp_non h]; exact ⟨.non, rfl, rfl⟩
  · rw [rp_bl h]; exact ⟨.bl _, rfl, rfl⟩
  · rw [rp_int h]; exact ⟨.int _, rfl, rfl⟩
  · split at e
    · rename_i z
      cases e
      rw [rp_str h]; exact ⟨.str _, z, rfl⟩
    · cases e
theorem allO_dp {f : PV → Option PyData} {n r : Nat} (hf : ∀ x v d, Rp K r M H x v → f x = some d → Dp K H v d ∧ d.canLay0 = true ∧ d.depth ≤ n) : ∀ (xs : List PV) (vs : List V) (ds : List PyData), Rps K r M H xs vs → allO f xs = some ds →
    DpAll K H vs ds ∧ PyData.canLayAll0 ds = true ∧ PyData.depthAll ds ≤ n
  | [], vs, ds, h, e => by
    rw [Rps] at h
    subst h
    cases e
    exact ⟨.nil, rfl, Nat.zero_le _⟩
  | x :: xs, vs, ds, h, e => by
    rw [Rps] at h
    obtain ⟨v, ws, rfl, h1, h2⟩ := h
    rw [allO] at e
    split at e
    · rename_i d ds' e1 e2
      cases e
      obtain ⟨a1, a2, a3⟩ := hf x v d h1 e1
      obtain ⟨b1, b2, b3⟩ := allO_dp hf xs ws ds' h2 e2
      refine ⟨.cons a1 b1, ?_, ?_⟩
      · simp only [PyData.canLayAll0, a2, b2, Bool.and_self]
      · simp only [PyData.depthAll]; omega
    · cases e
theorem pdat_dp (s : Sto K bk M S H) : ∀ (n : Nat) (x : PV) (v : V) (d : PyData), Rp K bk.root M H x v → pdat S n x = some d → Dp K H v d ∧ d.canLay0 = true ∧ d.depth ≤ n
  | 0, x, v, d, h, e => by
    obtain ⟨a, b, c⟩ := pscal_dp h e
    exact ⟨a, b, by omega⟩
  | n + 1, x, v, d, h, e => by
    rw [pdat.eq_def] at e
    simp only at e
    split at e
    · obtain ⟨ds, e1, rfl⟩ := Option.map_eq_some_iff.mp e
      obtain ⟨a, vs, rfl, fz, rs⟩ := rp_tup h
      obtain ⟨b1, b2, b3⟩ := allO_dp (pdat_dp s n) _ vs ds rs e1
      exact ⟨.tup fz b1, b2, by simp only [PyData.depth]; omega⟩
    · obtain ⟨ds, e1, rfl⟩ := Option.map_eq_some_iff.mp e
      obtain ⟨a, vs, rfl, fz, rs⟩ := rp_rol h
      obtain ⟨b1, b2, b3⟩ := allO_dp (pdat_dp s n) _ vs ds rs e1
      exact ⟨.lst fz.sq b1, b2, by simp only [PyData.depth]; omega⟩
    · obtain ⟨xs, e0, e⟩ := Option.bind_eq_some_iff.mp e
      obtain ⟨ds, e1, rfl⟩ := Option.map_eq_some_iff.mp e
      obtain ⟨a, ea, rfl⟩ := rp_lst h
      obtain ⟨vs, eh, rs⟩ := s.lst ea e0
      obtain ⟨b1, b2, b3⟩ := allO_dp (pdat_dp s n) _ vs ds rs e1
      exact ⟨.lst (SqL.of eh) b1, b2, by simp only [PyData.depth]; omega⟩
    · obtain ⟨a, b, c⟩ := pscal_dp h e
      exact ⟨a, b, by omega⟩
def oEqD : PO2 := fun x y S Q => onO (pdat S 6 x) fun d => onO (pdat S 6 y) fun e => Q (.bl (PyData.eqv d e)) S
def oNeD : PO2 := fun x y S Q => onO (pdat S 6 x) fun d => onO (pdat S 6 y) fun e => Q (.bl (!PyData.eqv d e)) S
instance : Mo2 oEqD := ⟨fun h q => onO_mo (fun _ q => onO_mo (fun _ q => h _ _ q) q) q⟩
instance : Mo2 oNeD := ⟨fun h q => onO_mo (fun _ q => onO_mo (fun _ q => h _ _ q) q) q⟩
theorem shaped_of {d : PyData} (h1 : d.canLay0 = true) (h2 : d.depth ≤ 6) : SeqAt.shaped d = true := by
  unfold SeqAt.shaped
  rw [h1, Bool.true_and]
  exact decide_eq_true (by omega)
theorem oEqDP : OpP bk K (rEqD K) oEqD := fun M S H x y v w Q Q' s r1 r2 q p => by
  obtain ⟨d, e1, q⟩ := onO_ex q
  obtain ⟨e, e2, q⟩ := onO_ex q
  obtain ⟨a1, a2, a3⟩ := pdat_dp s 6 x v d r1 e1
  obtain ⟨b1, b2, b3⟩ := pdat_dp s 6 y w e r2 e2
  exact ⟨d, e, a1, b1, shaped_of a2 a3, shaped_of b2 b3, p M S H _ _ (.refl M H) s to_bl q⟩
theorem oNeDP : OpP bk K (rNeD K) oNeD := fun M S H x y v w Q Q' s r1 r2 q p => by
  obtain ⟨d, e1, q⟩ := onO_ex q
  obtain ⟨e, e2, q⟩ := onO_ex q
  obtain ⟨a1, a2, a3⟩ := pdat_dp s 6 x v d r1 e1
  obtain ⟨b1, b2, b3⟩ := pdat_dp s 6 y w e r2 e2
  exact ⟨d, e, a1, b1, shaped_of a2 a3, shaped_of b2 b3, p M S H _ _ (.refl M H) s to_bl q⟩
end
/-! ### data of fractions -/
def frD (x : Rat) : PyData := .tuple [.int x.num, .int (x.den : Int)]
theorem pdat_fr {S : Store} {n : Nat} {x : Rat} : pdat S (n + 1) (fr x) = some (frD x) := by cases n <;> rfl
theorem eqv_fr (x y : Rat) : PyData.eqv (frD x) (frD y) = decide (x = y) := by
  simp only [frD, PyData.eqv, PyData.eqvAll, Bool.and_true]
  by_cases h : x = y
  · subst h; simp
  · rw [decide_eq_false h]
    by_cases h1 : x.num = y.num
    · have : ¬ x.den = y.den := fun e => h (Rat.ext h1 e)
      have : ((x.den : Int) == (y.den : Int)) = false := beq_eq_false_iff_ne.mpr (by omega)
      rw [this, Bool.and_false]
    · have : (x.num == y.num) = false := by simpa using h1
      rw [this, Bool.false_and]
theorem allO_map {α : Type} {f : PV → Option PyData} {c : α → PV} {d : α → PyData} (h : ∀ i, f (c i) = some (d i)) : ∀ xs : List α, allO f (xs.map c) = some (xs.map d)
  | [] => rfl
  | x :: xs => by rw [List.map_cons, allO, h, allO_map h xs]; rfl
theorem allO_frs {S : Store} {n k : Nat} {f : Nat → Rat} : allO (pdat S (n + 1)) (frl k f) = some ((List.range k).map fun i => frD (f i)) := allO_map (fun i => pdat_fr) _
theorem eqv_nil (ds : List PyData) : PyData.eqv (.list ds) (.list []) = ds.isEmpty := by
  cases ds <;> rfl
end L2.P3
namespace L2.P3
theorem pdat_lst {S : Store} {n m : Nat} {xs : List PV} {ds : List PySem.PyData} (h : S[m]? = some xs) (e : allO (pdat S n) xs = some ds) : pdat S (n + 1) (.lst m) = some (.list ds) := by
  rw [pdat.eq_def]
  simp only
  rw [h]
  show Option.map _ _ = _
  rw [e]; rfl
theorem pdat_tup {S : Store} {n : Nat} {xs : List PV} {ds : List PySem.PyData} (e : allO (pdat S n) xs = some ds) : pdat S (n + 1) (.tup xs) = some (.tuple ds) := by
  rw [pdat.eq_def]
  show Option.map _ _ = _
  rw [e]; rfl
end L2.P3
namespace L2.P3
open PySem PySem.Spec PyProof.Rows L2
theorem nat_int_rat (j : Nat) : ((j : Int) : Rat) = (j : Rat) := rfl
theorem rs_nb {x : Rat} (hx : RS 16 x) : ∀ {j : Nat}, j ≤ 100 → RS (33 * j + 1) (nb x j)
  | 0, _ => rs_int (i := 1) (sz_one (by omega)) (by omega)
  | j + 1, h => by
    rw [nb_next]
    have h1 : RS 8 (-(j : Rat)) := rs_neg (rs_int (i := (j : Int)) (sz_le (b := 200) (by omega) (by omega) (by decide)) (by decide))
    have h2 : RS 8 (Rat.divInt 1 ((j : Int) + 1)) := rs_divInt (by omega) (sz_one (by decide)) (sz_le (b := 200) (by omega) (by omega) (by decide))
    exact ((rs_nb hx (by omega)).mul ((hx.add h1).mul h2)).mono (by omega)
theorem rs_dfn {N k : Nat} {p : Nat → Int} (h : ∀ i, i < k → Sz N (p i)) (hN : 1 ≤ N) (j i : Nat) (l : i + j < k) : RS (N + k) (dfn j (fun i => (p i : Rat)) i) := by
  rw [← dfz_cast]
  exact rs_int ((sz_dfz h j i l).mono (by omega)) (by omega)
theorem nb_law (x : Rat) (j : Nat) : nb x j * (x - (j : Rat)) * Rat.divInt 1 ((j : Int) + 1) = nb x (j + 1) := by rw [nb_next]; grind
/-- sizes for the polynomial's parts -/
theorem rs_part {k : Nat} {p : Nat → Int} {x : Rat} (hp : ∀ i, i < k → Sz 101 (p i)) (hk : k ≤ 7) (hx : RS 16 x) (j : Nat) (hj : j < k) : RS 360 (dfn j (fun i => (p i : Rat)) 0 * nb x j) :=
  ((rs_dfn hp (by decide) j 0 (by omega)).mul (rs_nb hx (by omega))).mono (by omega)
theorem rs_parts {k : Nat} {p : Nat → Int} {x : Rat} (hp : ∀ i, i < k → Sz 101 (p i)) (hk : k ≤ 7) (hx : RS 16 x) (j : Nat) (hj : j ≤ k) : RS 2600 (npol j (fun j => dfn j (fun i => (p i : Rat)) 0) x) :=
  (rs_sig (a := 360) fun i hi => rs_part hp hk hx i (by omega)).mono (by omega)
end L2.P3
namespace L2.P3
open PySem PySem.Spec PyProof.Rows L2
theorem cd_through {k : Nat} {p : Nat → Int} {i m : Int} (hk : k ≤ 7) (hp : ∀ i, i < k → Sz 101 (p i)) (hm : 2 ≤ m) (hm2 : m ≤ 10) (h1 : -30 ≤ i) (h2 : i ≤ 70) : CD (m ^ 7 * facti 7) 240 (pthrough k p (Rat.divInt i m)) := by
  unfold pthrough npol
  have hs : ∀ j : Nat, j < 7 → Sz 8 (i - j * m) := fun j hj => by
    have a1 : (j : Int) * m ≤ 6 * 10 := Int.mul_le_mul (by omega) hm2 (by omega) (by omega)
    have a2 : 0 ≤ (j : Int) * m := Int.mul_nonneg (by omega) (by omega)
    exact sz_le (b := 200) (by omega) (by omega) (by decide)
  have hc : ∀ j, j < k → CD (m ^ 7 * facti 7) 221 (dfn j (fun i => (p i : Rat)) 0 * nb (Rat.divInt i m) j) := fun j hj => by
    have a1 : CD 1 108 (dfn j (fun i => (p i : Rat)) 0) := by
      rw [← dfz_cast]
      exact CD.int ((sz_dfz hp j 0 (by omega)).mono (by omega))
    have a2 := cd_nb (i := i) (N := 8) (by omega) (sz_le (b := 10) (by omega) hm2 (by decide)) 7 j (by omega) hs (by unfold Sz; decide)
    have a3 := a1.mul a2
    rw [Int.one_mul] at a3
    exact a3.mono (by omega)
  exact (CD.sig hc).mono (by omega)
theorem fine_den {m : Int} (hm : 2 ≤ m) (hm2 : m ≤ 10) : 0 < m ^ 7 * facti 7 ∧ Sz 250 (m ^ 7 * facti 7) := by
  have h : m = 2 ∨ m = 3 ∨ m = 4 ∨ m = 5 ∨ m = 6 ∨ m = 7 ∨ m = 8 ∨ m = 9 ∨ m = 10 := by omega
  rcases h with h | h | h | h | h | h | h | h | h <;> subst h <;> (unfold Sz; decide +kernel)
theorem rs_finer {k : Nat} {p : Nat → Int} {m : Int} (hk : k ≤ 7) (hp : ∀ i, i < k → Sz 101 (p i)) (hm : 2 ≤ m) (hm2 : m ≤ 10) (j i : Nat) (l : i + j < k) : RS 250 (dfn j (fun i => pthrough k p (Rat.divInt i m)) i) :=
  (cd_dfn (k := k) (fun i hi => cd_through hk hp hm hm2 (by omega) (by omega)) j i l).rs (fine_den hm hm2).1 (fine_den hm hm2).2 (by omega)
end L2.P3
/-! comprehensions within comprehensions -/
namespace L2.P3
open PySem PySem.Spec PyProof.Rows L2
theorem blkOk_in {N : List Str} {env : Env} {sc0 scope0 scope : Scope} {own : List (Str × Nat)} {cl : List (Str × Addr)} {C : Addr} (h : blkC N (relS scope0 sc0) scope own = true) (he : env.scope = sc0) : BlkOk N (compEnvC scope0 cl C env).scope scope own := by
  subst he
  exact blkOk_by h
end L2.P3

/-! ### comprehensions whose turns leave lists behind -/
namespace L2.P3
open PySem PySem.Spec PyProof.Rows L2
theorem get_app {S G : Store} {n : Nat} {x : List PV} (h : S[n]? = some x) : (S ++ G)[n]? = some x := by
  rw [List.getElem?_append_left (List.getElem?_eq_some_iff.mp h).1]; exact h
/-- S, the list acc behind it, and more -/
def Tl (S : Store) (acc : List PV) (S' : Store) : Prop := ∃ G, S' = S ++ acc :: G
theorem Tl.base {S : Store} {acc : List PV} {G : Store} : Tl S acc (S ++ acc :: G) := ⟨G, rfl⟩
theorem Tl.app {S S' L : Store} {acc : List PV} (h : Tl S acc S') : Tl S acc (S' ++ L) := by
  obtain ⟨G, rfl⟩ := h
  exact ⟨G ++ L, by rw [List.append_assoc]; rfl⟩
theorem Tl.old {S S' : Store} {acc xs : List PV} {n : Nat} (h : Tl S acc S') (e : S[n]? = some xs) : S'[n]? = some xs := by
  obtain ⟨G, rfl⟩ := h
  exact get_app e
theorem Tl.len {S S' : Store} {acc : List PV} (h : Tl S acc S') : S.length < S'.length := by
  obtain ⟨G, rfl⟩ := h
  simp
theorem get_mid {S G : Store} {x : List PV} : (S ++ x :: G)[S.length]? = some x := by simp
section
variable {chk : Store → Prop} {g : PTG} {tt : PTT} {te : PTE} {E : XW} {ρ0 : PEnv} {Q : PQ} {S : Store}
theorem pLcL_gen (P : Nat → PV → Prop) (hc : ∀ acc G, chk (S ++ acc :: G)) :
    ∀ (xs acc : List PV) (G : Store) (n : Nat), (∀ (i : Nat) x, xs[i]? = some x → ∀ acc S1 Qk, Tl S acc S1 → (∀ y S', Tl S acc S' → P (n + i) y → Qk (some y) S') → lcStep g tt te E ρ0 x S1 Qk) → acc.length + xs.length ≤ 16777216 →
      (∀ ys G', ys.length = xs.length → (∀ i y, ys[i]? = some y → P (n + i) y) → Q (.lst S.length) (S ++ (acc ++ ys) :: G')) → pLcL chk g tt te E ρ0 S.length Q xs (S ++ acc :: G)
  | [], acc, G, n, _, _, q => ⟨hc acc G, by simpa using q [] G rfl (fun i y e => by simp at e)⟩
  | x :: xs, acc, G, n, h, hl, q => by
    simp only [List.length_cons] at hl
    refine ⟨hc acc G, h 0 x rfl acc _ (fun o S' => match o with
      | some y => onO S'[S.length]? fun a => a.length < 16777216 ∧ pLcL chk g tt te E ρ0 S.length Q xs (S'.set S.length (a ++ [y]))
      | none => pLcL chk g tt te E ρ0 S.length Q xs S') .base fun y S' hS hy => ?_⟩
    obtain ⟨G', rfl⟩ := hS
    refine onO_of (x := acc) get_mid ⟨by omega, ?_⟩
    have e2 : (S ++ acc :: G').set S.length (acc ++ [y]) = S ++ (acc ++ [y]) :: G' := by simp
    rw [e2]
    refine pLcL_gen P hc xs (acc ++ [y]) G' (n + 1) (fun i a ea acc S1 Qk hS hq => h (i + 1) a (by simpa using ea) acc S1 Qk hS fun z S' hS' hz => hq z S' hS' (by rw [Nat.add_assoc, Nat.add_comm 1]; exact hz)) (by simp; omega) fun ys G'' hy2 hys => ?_
    have := q (y :: ys) G'' (by simp [hy2]) fun i z e => by
      cases i with
      | zero => simp at e; subst e; exact hy
      | succ i => have := hys i z (by simpa using e); rw [Nat.add_assoc, Nat.add_comm 1] at this; exact this
    simpa using this
/-- over numbered things -/
theorem pLcL_grow {k : Nat} {a : Nat → PV} (b : Nat → PV) (hc : ∀ acc G, chk (S ++ acc :: G)) (hk : k ≤ 1000000)
    (h : ∀ i, i < k → ∀ acc S1 Qk, Tl S acc S1 → (∀ S', Tl S acc S' → Qk (some (b i)) S') → lcStep g tt te E ρ0 (a i) S1 Qk) (q : ∀ G, Q (.lst S.length) (S ++ (List.range k).map b :: G)) : pLcL chk g tt te E ρ0 S.length Q ((List.range k).map a) (S ++ [[]]) := by
  refine pLcL_gen (fun i y => y = b i) hc _ [] [] 0 (fun i x ex acc S1 Qk hS hq => ?_) (by simp; omega) fun ys G hy hys => ?_
  · have hi : i < k := by
      have := (List.getElem?_eq_some_iff.mp ex).1
      simpa using this
    rw [List.getElem?_map, List.getElem?_range hi] at ex
    cases ex
    exact h i hi acc S1 Qk hS fun S' hS' => hq _ S' hS' (by rw [Nat.zero_add])
  · have e : ys = (List.range k).map b := by
      apply List.ext_getElem?
      intro i
      by_cases hi : i < k
      · have hl : i < ys.length := by rw [hy]; simpa using hi
        have := hys i ys[i] (by simp [hl])
        rw [Nat.zero_add] at this
        rw [List.getElem?_map, List.getElem?_range hi, List.getElem?_eq_getElem hl, this]; rfl
      · rw [List.getElem?_eq_none (by rw [hy]; simpa using hi), List.getElem?_eq_none (by simpa using hi)]
    rw [List.nil_append, e]
    exact q G
/-- fractions drawn one by one -/
theorem pLcL_frs {R : Rat → Prop} (hc : ∀ acc G, chk (S ++ acc :: G)) (xs : List PV)
    (h : ∀ (i : Nat) x, xs[i]? = some x → ∀ acc S1 Qk, Tl S acc S1 → (∀ r S', Tl S acc S' → R r → Qk (some (fr r)) S') → lcStep g tt te E ρ0 x S1 Qk) (hl : xs.length ≤ 1000000)
    (q : ∀ (f : Nat → Rat) G, (∀ i, i < xs.length → R (f i)) → Q (.lst S.length) (S ++ frl xs.length f :: G)) : pLcL chk g tt te E ρ0 S.length Q xs (S ++ [[]]) := by
  refine pLcL_gen (fun _ y => ∃ r, y = fr r ∧ R r) hc xs [] [] 0 (fun i x e acc S1 Qk hS hq => h i x e acc S1 Qk hS fun r S' hS' hr => hq _ S' hS' ⟨r, rfl, hr⟩) (by simp; omega) fun ys G hy hys => ?_
  have : Inhabited Rat := ⟨0⟩
  obtain ⟨f, e, hf⟩ := get_fun (P := fun _ r => R r) (c := fr) hys
  rw [hy] at e hf
  rw [List.nil_append, e]
  exact q f G hf
theorem pLcL_intsG (lo hi : Int) (hc : ∀ acc G, chk (S ++ acc :: G)) (xs : List PV)
    (h : ∀ (i : Nat) x, xs[i]? = some x → ∀ acc S1 Qk, Tl S acc S1 → (∀ (z : Int) S', Tl S acc S' → lo ≤ z → z ≤ hi → Qk (some (.int z)) S') → lcStep g tt te E ρ0 x S1 Qk) (hl : xs.length ≤ 1000000)
    (q : ∀ (p : Nat → Int) G, (∀ i, i < xs.length → lo ≤ p i ∧ p i ≤ hi) → Q (.lst S.length) (S ++ nms xs.length p :: G)) : pLcL chk g tt te E ρ0 S.length Q xs (S ++ [[]]) := by
  refine pLcL_gen (fun _ y => ∃ z : Int, y = .int z ∧ lo ≤ z ∧ z ≤ hi) hc xs [] [] 0 (fun i x e acc S1 Qk hS hq => h i x e acc S1 Qk hS fun z S' hS' h1 h2 => hq _ S' hS' ⟨z, rfl, h1, h2⟩) (by simp; omega) fun ys G hy hys => ?_
  obtain ⟨p, e, hp⟩ := get_fun (P := fun _ z => lo ≤ z ∧ z ≤ hi) (c := PV.int) hys
  rw [hy] at e hp
  rw [List.nil_append, e]
  exact q p G hp
end
/-! ### order of fractions -/
theorem below_rat (x y : Rat) : decide (x.num * (y.den : Int) < y.num * (x.den : Int)) = decide (x < y) := by
  by_cases h : x < y
  · rw [decide_eq_true h, decide_eq_true ((Rat.lt_iff x y).mp h)]
  · rw [decide_eq_false h, decide_eq_false fun z => h ((Rat.lt_iff x y).mpr z)]
theorem fr_abs (x : Rat) : PV.tup [.int (x.num.natAbs : Int), .int (x.den : Int)] = fr x.abs := by
  unfold Rat.abs
  split
  · rename_i h
    have h2 : 0 ≤ x.num := Rat.num_nonneg.mpr h
    rw [show ((x.num.natAbs : Nat) : Int) = x.num by omega]; rfl
  · rename_i h
    have h2 : ¬ 0 ≤ x.num := fun z => h (Rat.num_nonneg.mp z)
    unfold fr
    rw [Rat.neg_num, Rat.neg_den, show ((x.num.natAbs : Nat) : Int) = -x.num by omega]
end L2.P3

namespace L2.P3
open PySem PySem.Spec PyProof.Rows L2
theorem pairs_rng {k : Nat} {a b : Nat → PV} : pairs ((List.range k).map a) ((List.range k).map b) = (List.range k).map fun i => .tup [a i, b i] := by
  unfold pairs
  apply List.ext_getElem?
  intro i
  rw [List.getElem?_zipWith]
  by_cases hi : i < k
  · rw [List.getElem?_map, List.getElem?_map, List.getElem?_map, List.getElem?_range hi]; rfl
  · rw [List.getElem?_eq_none (by simpa using hi), List.getElem?_eq_none (by simpa using hi), List.getElem?_eq_none (by simpa using hi)]
theorem pForL_rng {chk : Store → Prop} {g : PTG} {b : PTS} [MoG g] [MoS b] {E : XW} {D : PEnds} {n : Nat} {f : Nat → PV} {ρ : PEnv} {S : Store} (I : Nat → PEnv → Store → Prop) (h0 : I 0 ρ S) (hc : ∀ j ρ S, I j ρ S → chk S)
    (hs : ∀ j ρ S, j < n → I j ρ S → g E (f j) ρ S fun ρ1 S1 => b E { D with nx := I (j + 1), ct := I (j + 1), bk := D.nx } ρ1 S1) (hd : ∀ ρ S, I n ρ S → D.nx ρ S) :
    pForL chk g b E D ((List.range n).map f) ρ S := by
  refine pForL_inv I _ 0 h0 hc (fun j x ρ S e hI => ?_) (fun ρ S h => hd ρ S (by simpa using h))
  have hj : j < n := by
    have := (List.getElem?_eq_some_iff.mp e).1
    simpa using this
  rw [List.getElem?_map, List.getElem?_range hj] at e
  cases e
  rw [Nat.zero_add] at hI ⊢
  exact hs j ρ S hj hI
theorem atI_last {xs : List PV} {y : PV} : atI (xs ++ [y]) (-1) = some y := by
  unfold atI ixN
  rw [if_neg (by decide), if_pos (by simp; omega)]
  have : ((-1 : Int) + ((xs ++ [y]).length : Int)).toNat = xs.length := by simp; omega
  rw [this]; simp
theorem setI_last {xs : List PV} {y z : PV} : setI (xs ++ [y]) (-1) z = some (xs ++ [z]) := by
  unfold setI ixN
  rw [if_neg (by decide), if_pos (by simp; omega)]
  have : ((-1 : Int) + ((xs ++ [y]).length : Int)).toNat = xs.length := by simp; omega
  rw [this]; simp
/-- of whole numbers one after the other, held in bounds of their own -/
theorem frs_of {R : Nat → Rat → Prop} {xs : List PV} (h : ∀ (i : Nat) y, xs[i]? = some y → ∃ r, y = fr r ∧ R i r) : ∃ f : Nat → Rat, xs = frl xs.length f ∧ ∀ i, i < xs.length → R i (f i) := by
  have : Inhabited Rat := ⟨0⟩
  exact get_fun (P := R) (c := fr) h
theorem snoc_all {P : Nat → PV → Prop} {xs : List PV} {y : PV} (h : ∀ (i : Nat) x, xs[i]? = some x → P i x) (hy : P xs.length y) : ∀ (i : Nat) x, (xs ++ [y])[i]? = some x → P i x := fun i x e => by
  by_cases hi : i < xs.length
  · rw [List.getElem?_append_left hi] at e; exact h i x e
  · rw [List.getElem?_append_right (by omega)] at e
    have hl : i - xs.length = 0 := by
      have := (List.getElem?_eq_some_iff.mp e).1
      simp at this; omega
    rw [hl] at e
    simp at e
    subst e
    rw [show i = xs.length by omega]; exact hy
theorem abs_le_of {r u : Rat} (h : ¬ u < r.abs) : r ≤ u ∧ -u ≤ r := by
  have h : r.abs ≤ u := Rat.not_lt.mp h
  unfold Rat.abs at h
  split at h <;> constructor <;> grind
theorem rs_abs {n : Nat} {r : Rat} (h : RS n r) : RS n r.abs := by
  unfold Rat.abs
  split
  · exact h
  · exact rs_neg h
end L2.P3

namespace L2.P3
open PySem PySem.Spec PyProof.Rows L2
theorem pLcL_none {chk : Store → Prop} {g : PTG} {tt : PTT} {te : PTE} {E : XW} {ρ0 : PEnv} {Q : PQ} {S : Store} (hc : ∀ acc, chk (S ++ [acc])) (xs : List PV)
    (h : ∀ x ∈ xs, ∀ acc Qk, Qk none (S ++ [acc]) → lcStep g tt te E ρ0 x (S ++ [acc]) Qk) (hl : xs.length ≤ 16777216) (q : Q (.lst S.length) (S ++ [[]])) : pLcL chk g tt te E ρ0 S.length Q xs (S ++ [[]]) := by
  refine pLcL_pure (fun _ => none) hc xs [] h (by simpa using hl) ?_
  have e : xs.filterMap (fun _ => (none : Option PV)) = [] := by
    clear h hl
    induction xs with
    | nil => rfl
    | cons x xs ih => exact ih
  rw [e]; exact q
theorem abs_parts (x : Rat) : x.abs.num = (x.num.natAbs : Int) ∧ x.abs.den = x.den := by
  unfold Rat.abs
  split
  · rename_i h
    have h2 : 0 ≤ x.num := Rat.num_nonneg.mpr h
    exact ⟨by omega, rfl⟩
  · rename_i h
    have h2 : ¬ 0 ≤ x.num := fun z => h (Rat.num_nonneg.mp z)
    rw [Rat.neg_num, Rat.neg_den]
    exact ⟨by omega, rfl⟩
theorem abs_divInt (x : Rat) : Rat.divInt (x.num.natAbs : Int) (x.den : Int) = x.abs := by
  have h := abs_parts x
  rw [← h.1, ← h.2, Rat.num_divInt_den]
theorem abs_le {r u : Rat} (h1 : r ≤ u) (h2 : -u ≤ r) : ¬ u < r.abs := by
  unfold Rat.abs
  split <;> grind
end L2.P3

/-! ### lines with slips -/
namespace L2.P3
open PySem PySem.Spec PyProof.Rows L2
theorem sig_le {f g : Nat → Rat} : ∀ {k : Nat}, (∀ i, i < k → f i ≤ g i) → sig k f ≤ sig k g
  | 0, _ => Rat.le_refl
  | k + 1, h => by
    have h1 := sig_le (k := k) fun i hi => h i (by omega)
    have h2 := h k (by omega)
    rw [sig, sig]; grind
/-- the plain line, the slips' reach -/
def lineV (k : Nat) (f : Nat → Rat) (n : Int) : Rat := sig k fun i => f i * (bin n i : Rat)
def lineW (k : Nat) (u : Nat → Rat) (n : Int) : Rat := sig k fun i => u i * ((bin n i).natAbs : Rat)
theorem natAbs_rat (b : Int) : (b.natAbs : Rat) = if 0 ≤ b then (b : Rat) else -(b : Rat) := by
  have h : ((b.natAbs : Nat) : Rat) = (((b.natAbs : Nat) : Int) : Rat) := rfl
  rw [h]
  split
  · rw [show ((b.natAbs : Nat) : Int) = b by omega]
  · rw [show ((b.natAbs : Nat) : Int) = -b by omega, Rat.intCast_neg]
/-- the hand that pushes a line up as far as can be -/
def upHand (u : Nat → Rat) (n : Int) (j : Nat) : Rat := if 0 < bin n j then u j else if bin n j < 0 then -u j else 0
theorem rs_up {a : Nat} {n : Int} {j : Nat} {u : Nat → Rat} (h : RS a (u j)) (ha : 1 ≤ a) : RS a (upHand u n j) := by
  unfold upHand
  split
  · exact h
  · split
    · exact rs_neg h
    · exact ⟨sz_pos _, sz_one ha⟩
theorem up_in {n : Int} {j : Nat} {u : Nat → Rat} (h : 0 ≤ u j) : upHand u n j ≤ u j ∧ -u j ≤ upHand u n j := by
  unfold upHand
  split
  · constructor <;> grind
  · split <;> constructor <;> grind
theorem up_bin (u : Nat → Rat) (n : Int) (j : Nat) : upHand u n j * (bin n j : Rat) = u j * ((bin n j).natAbs : Rat) := by
  rw [natAbs_rat]
  unfold upHand
  by_cases h1 : 0 < bin n j
  · rw [if_pos h1, if_pos (by omega)]
  · rw [if_neg h1]
    by_cases h2 : bin n j < 0
    · rw [if_pos h2, if_neg (by omega)]; grind
    · rw [if_neg h2, if_pos (by omega), show bin n j = 0 by omega, show ((0 : Int) : Rat) = 0 from rfl]; grind
theorem at_hand (k : Nat) (f h : Nat → Rat) (n : Int) : (sig k fun i => (bin n i : Rat) * (f i + h i)) = lineV k f n + lineV k h n := by
  unfold lineV
  rw [← sig_add]
  exact sig_congr fun i _ => by grind
theorem line_up (k : Nat) (u : Nat → Rat) (n : Int) : lineV k (upHand u n) n = lineW k u n := sig_congr fun i _ => up_bin u n i
theorem line_neg (k : Nat) (h : Nat → Rat) (n : Int) : lineV k (fun i => -h i) n = -lineV k h n := by
  unfold lineV
  rw [sig_congr (g := fun i => (-1) * (h i * (bin n i : Rat))) fun i _ => by grind, sig_mul]; grind
theorem line_none (k : Nat) (n : Int) : lineV k (fun _ => 0) n = 0 := by
  unfold lineV
  rw [sig_congr (g := fun _ => 0) fun i _ => by grind, sig_zero]
theorem slip_le {h u : Rat} (b : Int) (h1 : h ≤ u) (h2 : -u ≤ h) : h * (b : Rat) ≤ u * (b.natAbs : Rat) ∧ -(u * (b.natAbs : Rat)) ≤ h * (b : Rat) := by
  rw [natAbs_rat]
  split
  · rename_i hb
    have hb : (0 : Rat) ≤ (b : Rat) := by exact_mod_cast hb
    have e1 := Rat.mul_le_mul_of_nonneg_left h1 hb
    have e2 := Rat.mul_le_mul_of_nonneg_left h2 hb
    constructor <;> grind
  · rename_i hb
    have hb : (0 : Rat) ≤ ((-b : Int) : Rat) := by exact_mod_cast (show (0 : Int) ≤ -b by omega)
    rw [Rat.intCast_neg] at hb
    have e1 := Rat.mul_le_mul_of_nonneg_left h1 hb
    have e2 := Rat.mul_le_mul_of_nonneg_left h2 hb
    constructor <;> grind
theorem line_in {k : Nat} {h u : Nat → Rat} (n : Int) (hh : ∀ i, i < k → h i ≤ u i ∧ -u i ≤ h i) : lineV k h n ≤ lineW k u n ∧ -lineW k u n ≤ lineV k h n := by
  refine ⟨sig_le fun i hi => (slip_le _ (hh i hi).1 (hh i hi).2).1, ?_⟩
  have : (sig k fun i => -(u i * ((bin n i).natAbs : Rat))) ≤ lineV k h n := sig_le fun i hi => (slip_le _ (hh i hi).1 (hh i hi).2).2
  rw [sig_congr (g := fun i => (-1) * (u i * ((bin n i).natAbs : Rat))) fun i _ => by grind, sig_mul] at this
  unfold lineW
  grind
theorem rs_lineW {n : Int} {k B a c : Nat} {f : Nat → Rat} (hn : Sz B n) (hj : Sz B (k : Int)) (ha : ∀ i, i < k → RS a (f i)) (hc : (a + ((B + 1) * k + 1) + 1) * k + 1 ≤ c) (i : Nat) (hi : i ≤ k) : RS c (sig i fun i => f i * ((bin n i).natAbs : Rat)) := by
  have hb : ∀ i, i < k → RS ((B + 1) * k + 1) (((bin n i).natAbs : Int) : Rat) := fun i hi => rs_int (by
    have := (sz_bin hn hj i (by omega)).mono (show (B + 1) * i + 1 ≤ (B + 1) * k + 1 by have := Nat.mul_le_mul_left (B + 1) (Nat.le_of_lt hi); omega)
    unfold Sz at *; omega) (by omega)
  refine (rs_sig (a := a + ((B + 1) * k + 1)) fun t ht => (ha t (by omega)).mul (hb t (by omega))).mono ?_
  have := Nat.mul_le_mul_left (a + ((B + 1) * k + 1) + 1) hi
  omega
theorem rs_lineV {n : Int} {k B a c : Nat} {f : Nat → Rat} (hn : Sz B n) (hj : Sz B (k : Int)) (ha : ∀ i, i < k → RS a (f i)) (hc : (a + ((B + 1) * k + 1) + 1) * k + 1 ≤ c) (i : Nat) (hi : i ≤ k) : RS c (sig i fun i => f i * (bin n i : Rat)) := by
  have hb : ∀ i, i < k → RS ((B + 1) * k + 1) (bin n i : Rat) := fun i hi => rs_int ((sz_bin hn hj i (by omega)).mono (by have := Nat.mul_le_mul_left (B + 1) (Nat.le_of_lt hi); omega)) (by omega)
  refine (rs_sig (a := a + ((B + 1) * k + 1)) fun t ht => (ha t (by omega)).mul (hb t (by omega))).mono ?_
  have := Nat.mul_le_mul_left (a + ((B + 1) * k + 1) + 1) hi
  omega
theorem rs_lineA {n : Int} {k B a c : Nat} {f h : Nat → Rat} (hn : Sz B n) (hj : Sz B (k : Int)) (ha : ∀ i, i < k → RS a (f i)) (hh : ∀ i, i < k → RS a (h i)) (hc : (2 * a + 1 + ((B + 1) * k + 1) + 1) * k + 1 ≤ c) (i : Nat) (hi : i ≤ k) : RS c (sig i fun i => (bin n i : Rat) * (f i + h i)) := by
  have hb : ∀ i, i < k → RS ((B + 1) * k + 1) (bin n i : Rat) := fun i hi => rs_int ((sz_bin hn hj i (by omega)).mono (by have := Nat.mul_le_mul_left (B + 1) (Nat.le_of_lt hi); omega)) (by omega)
  refine (rs_sig (a := 2 * a + 1 + ((B + 1) * k + 1)) fun t ht => ((hb t (by omega)).mul ((ha t (by omega)).add (hh t (by omega)))).mono (by omega)).mono ?_
  have := Nat.mul_le_mul_left (2 * a + 1 + ((B + 1) * k + 1) + 1) hi
  omega
end L2.P3

/-! ### columns turned on -/
namespace L2.P3
open PySem PySem.Spec PyProof.Rows L2
theorem pairs_rng2 {k k' : Nat} {a b : Nat → PV} : pairs ((List.range k).map a) ((List.range k').map b) = (List.range (min k k')).map fun i => .tup [a i, b i] := by
  unfold pairs
  apply List.ext_getElem?
  intro i
  rw [List.getElem?_zipWith]
  by_cases hi : i < k
  · by_cases hj : i < k'
    · rw [List.getElem?_map, List.getElem?_map, List.getElem?_map, List.getElem?_range hi, List.getElem?_range hj, List.getElem?_range (by omega)]; rfl
    · rw [List.getElem?_eq_none (l := (List.range k').map b) (by simpa using hj), List.getElem?_eq_none (l := List.map _ (List.range (min k k'))) (by simp; omega)]
      cases ((List.range k).map a)[i]? <;> rfl
  · rw [List.getElem?_eq_none (l := (List.range k).map a) (by simpa using hi), List.getElem?_eq_none (l := List.map _ (List.range (min k k'))) (by simp; omega)]
/-- the column of an order -/
def colV (k : Nat) (g : Nat → Rat) (n : Int) (o : Nat) : Rat := lineV (k - o) (fun j => g (o + j)) n
theorem lin_line (k : Nat) (g : Nat → Rat) (n : Int) : lin k g n = lineV k g n := sig_congr fun i _ => by grind
theorem colV_next {k o : Nat} {g : Nat → Rat} {n : Int} (h : o + 1 < k) : colV k g n o + colV k g n (o + 1) = colV k g (n + 1) o := by
  unfold colV
  have e : k - o = (k - (o + 1)) + 1 := by omega
  rw [e, ← lin_line, ← lin_line, ← lin_line, bin_lin]
  congr 1
  unfold lin
  exact sig_congr fun j _ => by dsimp only; rw [show o + (j + 1) = o + 1 + j by omega]
theorem colV_last {k o : Nat} {g : Nat → Rat} {n m : Int} (h : o + 1 = k) : colV k g n o = colV k g m o := by
  unfold colV lineV
  rw [show k - o = 1 by omega]
  simp only [sig, bin_zero]
theorem colV_zero {k : Nat} {g : Nat → Rat} {n : Int} : colV k g n 0 = lineV k g n := by
  unfold colV
  rw [Nat.sub_zero]
  exact sig_congr fun j _ => by dsimp only; rw [Nat.zero_add]
end L2.P3

namespace L2.P3
open PySem PySem.Spec PyProof.Rows L2
theorem cut_from {α : Type} {xs : List α} {o : Nat} (h : o ≤ xs.length) : cutP xs (some (o : Int)) none = xs.drop o := by
  unfold cutP
  rw [HT.sIx_nat, HT.sIx_none, Nat.min_eq_left h]
  exact List.take_of_length_le (by simp)
theorem cut_to {α : Type} {xs : List α} {o : Nat} (h : o ≤ xs.length) : cutP xs none (some (o : Int)) = xs.take o := by
  unfold cutP
  rw [HT.sIx_nat, HT.sIx_none, Nat.min_eq_left h]
  simp
theorem cut_last {α : Type} {xs : List α} (h : 1 ≤ xs.length) : cutP xs (some (-1)) none = xs.drop (xs.length - 1) := by
  unfold cutP
  rw [HT.sIx_none, show HT.sIx xs.length 0 (some (-1)) = xs.length - 1 from by
    show (if (-1 : Int) < 0 then ((-1 : Int) + (xs.length : Int)).toNat else min (-1 : Int).toNat xs.length) = _
    rw [if_pos (by decide)]; omega]
  exact List.take_of_length_le (by simp)
theorem frs_drop {k o : Nat} {g : Nat → Rat} : (frl k g).drop o = frl (k - o) fun j => g (o + j) := by
  unfold frl
  apply List.ext_getElem?
  intro i
  rw [List.getElem?_drop]
  by_cases hi : o + i < k
  · rw [List.getElem?_map, List.getElem?_map, List.getElem?_range hi, List.getElem?_range (by omega)]; rfl
  · rw [List.getElem?_eq_none (by simpa using hi), List.getElem?_eq_none (by simp; omega)]
end L2.P3
/-! tuple(range(..)), list(range(..)); x in a sequence of plain items -/
namespace L2.P3
open PySem PySem.Spec PyProof.Rows L2
/-! ### range(..) made a tuple or a list -/
def rgP (a b : Int) : List PV := (List.range (b - a).toNat).map fun i => PV.int (a + (i : Nat))
abbrev PTR := XW → PEnv → Store → (Int → Int → Store → Prop) → Prop
structure QR (bk : BagKind) (X : Cx) (e : Expr) (f : PTR) : Prop where
  ex : ∃ t, PRg X e t ∧ ∀ (E : XW) M ρ S σ H R R', Rel X.K bk M ρ S σ H → f E ρ S R → (∀ M' S' H' a b, Step M H M' H' → Sto X.K bk M' S' H' → R a b S' → R' a b H') → t σ H R'
def rOne (f : PTE) : PTR := fun E ρ S R => f E ρ S fun x S1 => match x with
  | .int n => R 0 n S1
  | _ => False
def rTwo (f g : PTE) : PTR := fun E ρ S R => f E ρ S fun x S1 => g E ρ S1 fun y S2 => match x, y with
  | .int i, .int j => R i j S2
  | _, _ => False
def pTupR (r : PTR) : PTE := fun E ρ S Q => r E ρ S fun a b S1 => RgOk a b ∧ Q (.tup (rgP a b)) S1
def pLstR (r : PTR) : PTE := fun E ρ S Q => r E ρ S fun a b S1 => RgOk a b ∧ Q (.lst S1.length) (S1 ++ [rgP a b])
class MoR (f : PTR) : Prop where
  mo : ∀ {E ρ S} {R R' : Int → Int → Store → Prop}, (∀ a b S, R a b S → R' a b S) → f E ρ S R → f E ρ S R'
instance {f : PTE} [MoE f] : MoR (rOne f) := ⟨fun h q => MoE.mo (f := f) (fun x _ q => by cases x <;> first | exact q.elim | exact h _ _ _ q) q⟩
instance {f g : PTE} [MoE f] [MoE g] : MoR (rTwo f g) := ⟨fun h q => MoE.mo (f := f) (fun x _ q => MoE.mo (f := g) (fun y _ q => by cases x <;> cases y <;> first | exact q.elim | exact h _ _ _ q) q) q⟩
instance {r : PTR} [MoR r] : MoE (pTupR r) := ⟨fun h q => MoR.mo (f := r) (fun _ _ _ q => ⟨q.1, h _ _ q.2⟩) q⟩
instance {r : PTR} [MoR r] : MoE (pLstR r) := ⟨fun h q => MoR.mo (f := r) (fun _ _ _ q => ⟨q.1, h _ _ q.2⟩) q⟩
theorem rps_rg {K : PySem.W.Frag} {r : Nat} {M : Am} {H : Hp} : ∀ (n : Nat) (f : Nat → Int), Rps K r M H ((List.range n).map fun i => PV.int (f i)) ((List.range n).map fun i => V.int (f i))
  | 0, _ => .nil
  | n + 1, f => by
    rw [List.range_succ_eq_map, List.map_cons, List.map_map, List.map_cons, List.map_map]
    exact .cons to_int (rps_rg n fun i => f (i + 1))
section
variable {bk : BagKind} {X : Cx} {pos p : Pos} {a b e : Expr} {f g : PTE} {r : PTR}
theorem qr_one (hg : Gl X "range") (hm : X.mg "range" = none) (ha : QE bk X a f) (na : starEach [a] X.env = (false, eval a X.env) :: starEach [] X.env := by rfl) : QR bk X (.Call (.Name "range" p) [a] [] pos) (rOne f) := by
  obtain ⟨ta, pa, wa⟩ := ha.ex
  refine ⟨_, prg_1 hg hm pa na, fun E M ρ S σ H R R' rel q k => ?_⟩
  refine wa E M ρ S σ H _ _ rel q fun M1 S1 H1 x v t1 s1 r1 q1 => ?_
  cases x <;> first | exact q1.elim | skip
  obtain rfl := rp_int r1
  exact ⟨_, rfl, k M1 S1 H1 _ _ t1 s1 q1⟩
theorem qr_two (hg : Gl X "range") (hm : X.mg "range" = none) (ha : QE bk X a f) (hb : QE bk X b g) (na : starEach [a, b] X.env = (false, eval a X.env) :: starEach [b] X.env := by rfl) (nb : starEach [b] X.env = (false, eval b X.env) :: starEach [] X.env := by rfl)
    (hp : (backTo pos (starEach [b] X.env)).any (·.1) = false := by rfl) : QR bk X (.Call (.Name "range" p) [a, b] [] pos) (rTwo f g) := by
  obtain ⟨ta, pa, wa⟩ := ha.ex
  obtain ⟨tb, pb, wb⟩ := hb.ex
  refine ⟨_, prg_2 hg hm pa pb na nb hp, fun E M ρ S σ H R R' rel q k => ?_⟩
  refine wa E M ρ S σ H _ _ rel q fun M1 S1 H1 x v t1 s1 r1 q1 => ?_
  refine wb E M1 ρ S1 σ H1 _ _ (rel.step t1 s1) q1 fun M2 S2 H2 y w t2 s2 r2 q2 => ?_
  cases x <;> cases y <;> first | exact q2.elim | skip
  obtain rfl := rp_int r1
  obtain rfl := rp_int r2
  exact ⟨_, _, rfl, rfl, k M2 S2 H2 _ _ (t1.trans t2) s2 q2⟩
theorem q_tupR (hc : X.calm = true) (hg : Gl X "tuple") (hm : X.mg "tuple" = none) (he : QR bk X e r) (na : starEach [e] X.env = (false, eval e X.env) :: starEach [] X.env := by rfl) : QE bk X (.Call (.Name "tuple" p) [e] [] pos) (pTupR r) := by
  obtain ⟨t, pt, wt⟩ := he.ex
  refine ⟨_, pe_tupRg hc hg hm pt na, fun E M ρ S σ H Q Q' R q p => ?_⟩
  refine wt E M ρ S σ H _ _ R q fun M1 S1 H1 a b t1 s1 q1 => ?_
  exact ⟨q1.1, (p.after t1).tup s1 (rps_rg _ _) q1.2⟩
theorem q_lstR (hc : X.calm = true) (hg : Gl X "list") (hm : X.mg "list" = none) (he : QR bk X e r) (na : starEach [e] X.env = (false, eval e X.env) :: starEach [] X.env := by rfl) : QE bk X (.Call (.Name "list" p) [e] [] pos) (pLstR r) := by
  obtain ⟨t, pt, wt⟩ := he.ex
  refine ⟨_, pe_listRg hc hg hm pt na, fun E M ρ S σ H Q Q' R q p => ?_⟩
  refine wt E M ρ S σ H _ _ R q fun M1 S1 H1 a b t1 s1 q1 => ?_
  exact ⟨q1.1, (p.after t1).lst s1 (rps_rg _ _) q1.2⟩
end
/-! ### x in xs -/
def svs : List PV → Option (List V)
  | [] => some []
  | x :: xs => match sv x, svs xs with
    | some v, some vs => some (v :: vs)
    | _, _ => none
def oIn : PO2 := fun x y S Q => onO (sv x) fun v => onO (its S y) fun xs => onO (svs xs) fun vs => Q (.bl (inV v vs)) S
def oNotIn : PO2 := fun x y S Q => onO (sv x) fun v => onO (its S y) fun xs => onO (svs xs) fun vs => Q (.bl (!inV v vs)) S
instance : Mo2 oIn := ⟨fun h q => onO_mo (fun _ q => onO_mo (fun _ q => onO_mo (fun _ q => h _ _ q) q) q) q⟩
instance : Mo2 oNotIn := ⟨fun h q => onO_mo (fun _ q => onO_mo (fun _ q => onO_mo (fun _ q => h _ _ q) q) q) q⟩
section
variable {bk : BagKind} {K : PySem.W.Frag} {M : Am} {S : Store} {H : Hp}
theorem sv_is {x : PV} {v w : V} {r : Nat} (h : Rp K r M H x v) (e : sv x = some w) : v = w ∧ flatV w = true := by
  cases x <;> simp only [sv] at e <;> try (cases e)
  · exact ⟨rp_non h, rfl⟩
  · exact ⟨rp_bl h, rfl⟩
  · exact ⟨rp_int h, rfl⟩
  · exact ⟨rp_str h, rfl⟩
theorem svs_is {r : Nat} : ∀ {xs : List PV} {vs ws : List V}, Rps K r M H xs vs → svs xs = some ws → vs = ws ∧ ws.all flatV = true
  | [], vs, ws, h, e => by
    rw [Rps] at h
    subst h
    cases e
    exact ⟨rfl, rfl⟩
  | x :: xs, vs, ws, h, e => by
    rw [Rps] at h
    obtain ⟨v, us, rfl, h1, h2⟩ := h
    rw [svs] at e
    split at e
    · rename_i a b e1 e2
      cases e
      obtain ⟨rfl, f1⟩ := sv_is h1 e1
      obtain ⟨rfl, f2⟩ := svs_is h2 e2
      exact ⟨rfl, by rw [List.all_cons, f1, f2]; rfl⟩
    · cases e
theorem in_rule {x y : PV} {v w : V} {u : V} {xs : List PV} {us : List V} (s : Sto K bk M S H) (r1 : Rp K bk.root M H x v) (r2 : Rp K bk.root M H y w) (e1 : sv x = some u) (e2 : its S y = some xs) (e3 : svs xs = some us) :
    v = u ∧ flatV u = true ∧ ∃ p, w = .ref p ∧ (SqL K H p us ∨ SqT K H p us) ∧ us.all flatV = true := by
  obtain ⟨rfl, f1⟩ := sv_is r1 e1
  obtain ⟨a, vs, rfl, q, rs⟩ := its_side s r2 e2
  obtain ⟨rfl, f2⟩ := svs_is rs e3
  refine ⟨rfl, f1, a, rfl, ?_, f2⟩
  cases h : isTup y
  · rw [h] at q; exact .inl q
  · rw [h] at q; exact .inr q
theorem oInP : OpP bk K (rIn K false) oIn := fun M S H x y v w Q Q' s r1 r2 q p => by
  obtain ⟨u, e1, q⟩ := onO_ex q
  obtain ⟨xs, e2, q⟩ := onO_ex q
  obtain ⟨us, e3, q⟩ := onO_ex q
  obtain ⟨rfl, f1, a, rfl, h, f2⟩ := in_rule s r1 r2 e1 e2 e3
  exact ⟨a, us, rfl, h, f1, f2, p M S H _ _ (.refl M H) s to_bl q⟩
theorem oNotInP : OpP bk K (rIn K true) oNotIn := fun M S H x y v w Q Q' s r1 r2 q p => by
  obtain ⟨u, e1, q⟩ := onO_ex q
  obtain ⟨xs, e2, q⟩ := onO_ex q
  obtain ⟨us, e3, q⟩ := onO_ex q
  obtain ⟨rfl, f1, a, rfl, h, f2⟩ := in_rule s r1 r2 e1 e2 e3
  exact ⟨a, us, rfl, h, f1, f2, p M S H _ _ (.refl M H) s to_bl q⟩
end
end L2.P3

namespace L2.P3
open PySem PySem.Spec PyProof.Rows L2
/-- the stripe of a print -/
def stp (y p : Int) (mode : Str) : PV :=
  if mode = "down" then .tup [fr (Rat.divInt y (10 ^ p.toNat)), fr (Rat.divInt (y + 1) (10 ^ p.toNat)), .bl true, .bl false]
  else if mode = "even" then .tup [fr (Rat.divInt (2 * y - 1) (2 * 10 ^ p.toNat)), fr (Rat.divInt (2 * y + 1) (2 * 10 ^ p.toNat)), .bl (decide (y % 2 = 0)), .bl (decide (y % 2 = 0))]
  else .tup [fr (Rat.divInt (2 * y - 1) (2 * 10 ^ p.toNat)), fr (Rat.divInt (2 * y + 1) (2 * 10 ^ p.toNat)), .bl true, .bl false]
theorem stp_dat (y p : Int) (mode : Str) : dat true 6 (stp y p mode) = true := by
  unfold stp
  split
  · simp [dat, dats, dat_fr]
  · split <;> simp [dat, dats, dat_fr]
theorem sz_two10 {p : Int} (h1 : p ≤ 1000) : Sz 4003 (2 * 10 ^ p.toNat) := by
  have := (show Sz 2 2 by unfold Sz; decide).mul (sz_pow10 p.toNat)
  exact this.mono (by omega)
end L2.P3

/-! ### prints rise with their numbers -/
namespace L2.P3
open PySem PySem.Spec PyProof.Rows L2
theorem floor_le {x y : Rat} (h : x ≤ y) : x.floor ≤ y.floor := Rat.le_floor_iff.mpr (Rat.le_trans (Rat.floor_le x) h)
theorem floor_two {x : Rat} (h : x.den = 2) : (((x + 1 / 2).floor : Int) : Rat) = x + 1 / 2 := by
  have co := x.reduced
  rw [h] at co
  have hodd : x.num % 2 = 1 := by
    have h1 : Nat.gcd x.num.natAbs 2 = 1 := co
    have h2 : x.num.natAbs % 2 = 1 := by
      rcases Nat.mod_two_eq_zero_or_one x.num.natAbs with h0 | h0
      · exfalso
        have : 2 ∣ Nat.gcd x.num.natAbs 2 := Nat.dvd_gcd (Nat.dvd_of_mod_eq_zero h0) (Nat.dvd_refl 2)
        rw [h1] at this
        omega
      · exact h0
    omega
  obtain ⟨m, hm⟩ : ∃ m : Int, x.num = 2 * m + 1 := ⟨x.num / 2, by omega⟩
  have e : x + 1 / 2 = ((m + 1 : Int) : Rat) := by
    have e1 := Rat.num_divInt_den x
    rw [h, hm, Rat.divInt_eq_div] at e1
    rw [← e1, Rat.intCast_add, Rat.intCast_add, Rat.intCast_mul]
    have a1 : ((2 : Int) : Rat) = 2 := rfl
    have a2 : ((1 : Int) : Rat) = 1 := rfl
    have a3 : (((2 : Nat) : Int) : Rat) = 2 := rfl
    rw [a1, a2, a3]; grind
  rw [e, Rat.floor_intCast]
theorem prn_le {x y : Rat} (h : x ≤ y) (mode : Str) : prn x mode ≤ prn y mode := by
  unfold prn
  by_cases hd : mode = "down"
  · rw [if_pos hd, if_pos hd]; exact floor_le h
  · rw [if_neg hd, if_neg hd]
    have hf : (x + 1 / 2).floor ≤ (y + 1 / 2).floor := floor_le (by grind)
    by_cases hy : mode = "even" ∧ y.den = 2 ∧ (y + 1 / 2).floor % 2 = 1
    · by_cases hx : mode = "even" ∧ x.den = 2 ∧ (x + 1 / 2).floor % 2 = 1
      · rw [if_pos hy, if_pos hx]; omega
      · rw [if_pos hy, if_neg hx]
        by_cases e : (x + 1 / 2).floor = (y + 1 / 2).floor
        · exfalso
          have h1 := floor_two hy.2.1
          have h2 := Rat.floor_le (x + 1 / 2)
          rw [e, h1] at h2
          have : x = y := by grind
          subst this
          exact hx hy
        · omega
    · by_cases hx : mode = "even" ∧ x.den = 2 ∧ (x + 1 / 2).floor % 2 = 1
      · rw [if_neg hy, if_pos hx]; omega
      · rw [if_neg hy, if_neg hx]; exact hf
/-- the print of a number to places -/
def prt (x : Rat) (places : Int) (mode : Str) : Int := prn (x * ((10 ^ places.toNat : Int) : Rat)) mode
theorem prt_le {x y : Rat} (h : x ≤ y) (places : Int) (mode : Str) : prt x places mode ≤ prt y places mode := by
  refine prn_le ?_ mode
  have := Rat.mul_le_mul_of_nonneg_left h (show (0 : Rat) ≤ ((10 ^ places.toNat : Int) : Rat) by exact_mod_cast Int.le_of_lt (pow10_pos _))
  rw [Rat.mul_comm x, Rat.mul_comm y]; exact this
theorem svs_nms {k : Nat} {f : Nat → Int} : svs ((List.range k).map fun i => PV.int (f i)) = some ((List.range k).map fun i => V.int (f i)) := by
  have : ∀ l : List Nat, svs (l.map fun i => PV.int (f i)) = some (l.map fun i => V.int (f i)) := fun l => by
    induction l with
    | nil => rfl
    | cons a l ih => rw [List.map_cons, svs, ih]; rfl
  exact this _
theorem inV_rg {p a b : Int} (h0 : a ≤ p) (h1 : p < b) : inV (.int p) ((List.range (b - a).toNat).map fun i => V.int (a + (i : Nat))) = true := by
  unfold inV
  rw [List.any_eq_true]
  refine ⟨.int p, List.mem_map.mpr ⟨(p - a).toNat, List.mem_range.mpr (by omega), ?_⟩, ?_⟩
  · rw [show a + (((p - a).toNat : Nat) : Int) = p by omega]
  · simp [eqV]
theorem sz_prt {n : Nat} {x : Rat} (h : RS n x) {p : Int} (h1 : p ≤ 50) (mode : Str) : Sz (n + 205) (prt x p mode) :=
  (sz_prn (h.mul (rs_int ((sz_pow10 p.toNat).mono (show 4 * p.toNat + 1 ≤ 201 by omega)) (by decide))) mode).mono (by omega)
end L2.P3

/-! ### how great lines and prints can be -/
namespace L2.P3
open PySem PySem.Spec PyProof.Rows L2
theorem rs_le {n : Nat} {x : Rat} (h : RS n x) : -(((2 ^ n : Int)) : Rat) ≤ x ∧ x ≤ (((2 ^ n : Int)) : Rat) := by
  have h1 := h.1
  unfold Sz at h1
  have e : ((2 ^ n : Nat) : Int) = 2 ^ n := by norm_cast
  have hd : (1 : Int) ≤ x.den := by have := x.den_pos; omega
  have h2 : (2 ^ n : Int) * 1 ≤ 2 ^ n * x.den := Int.mul_le_mul_of_nonneg_left hd (by omega)
  rw [← Rat.intCast_neg, Rat.le_iff, Rat.le_iff]
  rw [Rat.num_intCast, Rat.den_intCast, Rat.num_intCast, Rat.den_intCast, Int.neg_mul]
  generalize (2 ^ n : Int) * x.den = z at *
  generalize (2 ^ n : Int) = y at *
  generalize 2 ^ n = w at *
  constructor <;> omega
theorem sig_const (c : Rat) : ∀ k : Nat, sig k (fun _ => c) = k * c
  | 0 => by rw [sig]; show (0 : Rat) = ((0 : Nat) : Rat) * c; have : ((0 : Nat) : Rat) = 0 := rfl; rw [this]; grind
  | k + 1 => by
    rw [sig, sig_const c k]
    have : ((k + 1 : Nat) : Rat) = (k : Rat) + 1 := by norm_cast
    rw [this]; grind
theorem lineW_le {k : Nat} {u : Nat → Rat} {n : Int} {a b : Int} (a0 : 0 ≤ a) (hu : ∀ i, i < k → u i ≤ (a : Rat)) (hb : ∀ i, i < k → ((bin n i).natAbs : Int) ≤ b) : lineW k u n ≤ ((k * (a * b) : Int) : Rat) := by
  have h : lineW k u n ≤ sig k fun _ => ((a * b : Int) : Rat) := sig_le fun i hi => by
    have b0 : (0 : Rat) ≤ ((bin n i).natAbs : Rat) := by exact_mod_cast Nat.zero_le _
    have h1 := Rat.mul_le_mul_of_nonneg_left (hu i hi) b0
    have h2 : (((bin n i).natAbs : Int) : Rat) ≤ (b : Rat) := by exact_mod_cast hb i hi
    have a1 : (0 : Rat) ≤ (a : Rat) := by exact_mod_cast a0
    have h3 := Rat.mul_le_mul_of_nonneg_left h2 a1
    rw [Rat.intCast_mul]
    have e : (((bin n i).natAbs : Int) : Rat) = ((bin n i).natAbs : Rat) := rfl
    rw [e] at h3
    grind
  rw [sig_const] at h
  have : ((k * (a * b) : Int) : Rat) = (k : Rat) * ((a * b : Int) : Rat) := by rw [Rat.intCast_mul]; rfl
  rw [this]; exact h
theorem lineV_le {k : Nat} {f : Nat → Rat} {n : Int} {a b : Int} (a0 : 0 ≤ a) (hf : ∀ i, i < k → f i ≤ (a : Rat) ∧ -(a : Rat) ≤ f i) (hb : ∀ i, i < k → ((bin n i).natAbs : Int) ≤ b) : lineV k f n ≤ ((k * (a * b) : Int) : Rat) ∧ -((k * (a * b) : Int) : Rat) ≤ lineV k f n := by
  have h1 := line_in (u := fun _ => (a : Rat)) n hf
  have h2 := lineW_le (u := fun _ => (a : Rat)) a0 (fun i hi => Rat.le_refl) hb
  constructor <;> grind
theorem prn_whole (i : Int) (mode : Str) : prn (i : Rat) mode = i := by
  have h1 : ((i : Rat) + 1 / 2).floor = i := floor_eq (by grind) (by rw [Rat.intCast_add]; have : ((1 : Int) : Rat) = 1 := rfl; rw [this]; grind)
  unfold prn
  rw [h1, Rat.floor_intCast, Rat.den_intCast]
  split
  · rfl
  · rw [if_neg (by rintro ⟨_, h, _⟩; cases h)]
theorem prt_in {x : Rat} {c : Int} (h1 : x ≤ (c : Rat)) (h2 : -(c : Rat) ≤ x) (places : Int) (mode : Str) : prt x places mode ≤ c * 10 ^ places.toNat ∧ -(c * 10 ^ places.toNat) ≤ prt x places mode := by
  have a := prt_le h1 places mode
  have b := prt_le h2 places mode
  have e1 : prt (c : Rat) places mode = c * 10 ^ places.toNat := by unfold prt; rw [← Rat.intCast_mul, prn_whole]
  have e2 : prt (-(c : Rat)) places mode = -(c * 10 ^ places.toNat) := by unfold prt; rw [← Rat.intCast_neg, ← Rat.intCast_mul, prn_whole, Int.neg_mul]
  rw [e1] at a
  rw [e2] at b
  exact ⟨a, b⟩
theorem bin_le {B : Nat} {n : Int} (hn : Sz B n) {k : Nat} (hk : Sz B (k : Int)) {m : Nat} (hm : (B + 1) * k + 1 ≤ m) (j : Nat) (h : j ≤ k) : ((bin n j).natAbs : Int) ≤ 2 ^ m := by
  have h1 := (sz_bin hn hk j h).mono (show (B + 1) * j + 1 ≤ m by have := Nat.mul_le_mul_left (B + 1) h; omega)
  unfold Sz at h1
  have e : ((2 ^ m : Nat) : Int) = 2 ^ m := by norm_cast
  omega
end L2.P3
namespace L2.P3
theorem dat_tup {st : Bool} {n : Nat} {xs : List PV} (h : xs.length ≤ 100000) (d : dats st n xs = true) : dat st (n + 1) (.tup xs) = true := by
  unfold dat
  rw [Bool.and_eq_true]
  exact ⟨decide_eq_true (by omega), d⟩
end L2.P3
namespace Lawk11
open PySem PySem.Spec PyProof.Rows L2 L2.P3
def topS (i : Nat) : Stmt := PySem.Challenge.pw_lastfigure_k11_pages_and_prints_that_can.main.body.getD i (.Pass ⟨0, 0, 0, 0⟩)
abbrev s_frac : Stmt := topS 2
abbrev N_frac : List Str := ["above", "below", "by"]
abbrev P_frac : List Str := ["above", "below"]
theorem sc_frac : FnScope N_frac P_frac (defScope s_frac) := ⟨rfl, rfl, rfl, by decide +kernel, rfl, by decide +kernel, by decide +kernel⟩
abbrev s_whole : Stmt := topS 3
abbrev N_whole : List Str := ["number"]
abbrev P_whole : List Str := ["number"]
theorem sc_whole : FnScope N_whole P_whole (defScope s_whole) := ⟨rfl, rfl, rfl, by decide +kernel, rfl, by decide +kernel, by decide +kernel⟩
abbrev s_plus : Stmt := topS 4
abbrev N_plus : List Str := ["one", "other"]
abbrev P_plus : List Str := ["one", "other"]
theorem sc_plus : FnScope N_plus P_plus (defScope s_plus) := ⟨rfl, rfl, rfl, by decide +kernel, rfl, by decide +kernel, by decide +kernel⟩
abbrev s_minus : Stmt := topS 5
abbrev N_minus : List Str := ["one", "other"]
abbrev P_minus : List Str := ["one", "other"]
theorem sc_minus : FnScope N_minus P_minus (defScope s_minus) := ⟨rfl, rfl, rfl, by decide +kernel, rfl, by decide +kernel, by decide +kernel⟩
abbrev s_times : Stmt := topS 6
abbrev N_times : List Str := ["one", "other"]
abbrev P_times : List Str := ["one", "other"]
theorem sc_times : FnScope N_times P_times (defScope s_times) := ⟨rfl, rfl, rfl, by decide +kernel, rfl, by decide +kernel, by decide +kernel⟩
abbrev s_floor_of : Stmt := topS 7
abbrev N_floor_of : List Str := ["one"]
abbrev P_floor_of : List Str := ["one"]
theorem sc_floor_of : FnScope N_floor_of P_floor_of (defScope s_floor_of) := ⟨rfl, rfl, rfl, by decide +kernel, rfl, by decide +kernel, by decide +kernel⟩
abbrev s_total_of : Stmt := topS 8
abbrev N_total_of : List Str := ["rows", "above", "below", "one"]
abbrev P_total_of : List Str := ["rows"]
theorem sc_total_of : FnScope N_total_of P_total_of (defScope s_total_of) := ⟨rfl, rfl, rfl, by decide +kernel, rfl, by decide +kernel, by decide +kernel⟩
abbrev s_product_sum : Stmt := topS 9
abbrev N_product_sum : List Str := ["rows", "others", "place"]
abbrev P_product_sum : List Str := ["rows", "others"]
theorem sc_product_sum : FnScope N_product_sum P_product_sum (defScope s_product_sum) := ⟨rfl, rfl, rfl, by decide +kernel, rfl, by decide +kernel, by decide +kernel⟩
abbrev s_tens : Stmt := topS 10
abbrev N_tens : List Str := ["many", "found", "_"]
abbrev P_tens : List Str := ["many"]
theorem sc_tens : FnScope N_tens P_tens (defScope s_tens) := ⟨rfl, rfl, rfl, by decide +kernel, rfl, by decide +kernel, by decide +kernel⟩
abbrev s_choose : Stmt := topS 11
abbrev N_choose : List Str := ["many", "some", "found", "place"]
abbrev P_choose : List Str := ["many", "some"]
theorem sc_choose : FnScope N_choose P_choose (defScope s_choose) := ⟨rfl, rfl, rfl, by decide +kernel, rfl, by decide +kernel, by decide +kernel⟩
abbrev s_printed : Stmt := topS 13
abbrev N_printed : List Str := ["number", "places", "mode", "large", "nearest"]
abbrev P_printed : List Str := ["number", "places", "mode"]
theorem sc_printed : FnScope N_printed P_printed (defScope s_printed) := ⟨rfl, rfl, rfl, by decide +kernel, rfl, by decide +kernel, by decide +kernel⟩
abbrev s_choices_at : Stmt := topS 15
abbrev N_choices_at : List Str := ["start", "n", "j"]
abbrev P_choices_at : List Str := ["start", "n"]
theorem sc_choices_at : FnScope N_choices_at P_choices_at (defScope s_choices_at) := ⟨rfl, rfl, rfl, by decide +kernel, rfl, by decide +kernel, by decide +kernel⟩
abbrev s_slips_summed : Stmt := topS 16
abbrev N_slips_summed : List Str := ["slips", "choices", "number"]
abbrev P_slips_summed : List Str := ["slips", "choices"]
theorem sc_slips_summed : FnScope N_slips_summed P_slips_summed (defScope s_slips_summed) := ⟨rfl, rfl, rfl, by decide +kernel, rfl, by decide +kernel, by decide +kernel⟩
abbrev s_plain_line : Stmt := topS 17
abbrev N_plain_line : List Str := ["start", "n"]
abbrev P_plain_line : List Str := ["start", "n"]
theorem sc_plain_line : FnScope N_plain_line P_plain_line (defScope s_plain_line) := ⟨rfl, rfl, rfl, by decide +kernel, rfl, by decide +kernel, by decide +kernel⟩
abbrev s_columns_at : Stmt := topS 18
abbrev N_columns_at : List Str := ["figures", "n", "many", "order", "j"]
abbrev P_columns_at : List Str := ["figures", "n"]
theorem sc_columns_at : FnScope N_columns_at P_columns_at (defScope s_columns_at) := ⟨rfl, rfl, rfl, by decide +kernel, rfl, by decide +kernel, by decide +kernel⟩
abbrev s_turned_on : Stmt := topS 19
abbrev N_turned_on : List Str := ["columns", "ahead", "one", "other"]
abbrev P_turned_on : List Str := ["columns"]
theorem sc_turned_on : FnScope N_turned_on P_turned_on (defScope s_turned_on) := ⟨rfl, rfl, rfl, by decide +kernel, rfl, by decide +kernel, by decide +kernel⟩
abbrev s_rows_turned : Stmt := topS 20
abbrev N_rows_turned : List Str := ["start", "hand", "first", "many", "figures", "value", "slip", "columns", "found", "_"]
abbrev P_rows_turned : List Str := ["start", "hand", "first", "many"]
theorem sc_rows_turned : FnScope N_rows_turned P_rows_turned (defScope s_rows_turned) := ⟨rfl, rfl, rfl, by decide +kernel, rfl, by decide +kernel, by decide +kernel⟩
abbrev s_reach_at : Stmt := topS 21
abbrev N_reach_at : List Str := ["start", "n", "number"]
abbrev P_reach_at : List Str := ["start", "n"]
theorem sc_reach_at : FnScope N_reach_at P_reach_at (defScope s_reach_at) := ⟨rfl, rfl, rfl, by decide +kernel, rfl, by decide +kernel, by decide +kernel⟩
abbrev s_stretch : Stmt := topS 22
abbrev N_stretch : List Str := ["start", "n", "middle", "reach"]
abbrev P_stretch : List Str := ["start", "n"]
theorem sc_stretch : FnScope N_stretch P_stretch (defScope s_stretch) := ⟨rfl, rfl, rfl, by decide +kernel, rfl, by decide +kernel, by decide +kernel⟩
abbrev s_page_of : Stmt := topS 23
abbrev N_page_of : List Str := ["page", "hand", "start", "first", "many", "places", "mode", "one"]
abbrev P_page_of : List Str := ["page", "hand"]
theorem sc_page_of : FnScope N_page_of P_page_of (defScope s_page_of) := ⟨rfl, rfl, rfl, by decide +kernel, rfl, by decide +kernel, by decide +kernel⟩
abbrev s_print_ends : Stmt := topS 24
abbrev N_print_ends : List Str := ["page", "n", "low", "high"]
abbrev P_print_ends : List Str := ["page", "n"]
theorem sc_print_ends : FnScope N_print_ends P_print_ends (defScope s_print_ends) := ⟨rfl, rfl, rfl, by decide +kernel, rfl, by decide +kernel, by decide +kernel⟩
abbrev s_can_print : Stmt := topS 25
abbrev N_can_print : List Str := ["page", "n", "least", "greatest"]
abbrev P_can_print : List Str := ["page", "n"]
theorem sc_can_print : FnScope N_can_print P_can_print (defScope s_can_print) := ⟨rfl, rfl, rfl, by decide +kernel, rfl, by decide +kernel, by decide +kernel⟩
abbrev s__law_bag : Stmt := topS 27
abbrev N__law_bag : List Str := ["script", "cells", "cell", "great"]
abbrev P__law_bag : List Str := ["script"]
theorem sc__law_bag : FnScope N__law_bag P__law_bag (defScope s__law_bag) := ⟨rfl, rfl, rfl, by decide +kernel, rfl, by decide +kernel, by decide +kernel⟩
abbrev s__law_draw : Stmt := topS 28
abbrev N__law_draw : List Str := ["bag", "many", "digit", "cell", "mixed"]
abbrev P__law_draw : List Str := ["bag", "many"]
theorem sc__law_draw : FnScope N__law_draw P__law_draw (defScope s__law_draw) := ⟨rfl, rfl, rfl, by decide +kernel, rfl, by decide +kernel, by decide +kernel⟩
abbrev s__law_pick : Stmt := topS 29
abbrev N__law_pick : List Str := ["bag", "some"]
abbrev P__law_pick : List Str := ["bag", "some"]
theorem sc__law_pick : FnScope N__law_pick P__law_pick (defScope s__law_pick) := ⟨rfl, rfl, rfl, by decide +kernel, rfl, by decide +kernel, by decide +kernel⟩
abbrev s__law_same : Stmt := topS 30
abbrev N__law_same : List Str := ["found", "due", "k"]
abbrev P__law_same : List Str := ["found", "due"]
theorem sc__law_same : FnScope N__law_same P__law_same (defScope s__law_same) := ⟨rfl, rfl, rfl, by decide +kernel, rfl, by decide +kernel, by decide +kernel⟩
abbrev s__law_gcd : Stmt := topS 31
abbrev N__law_gcd : List Str := ["a", "b"]
abbrev P__law_gcd : List Str := ["a", "b"]
theorem sc__law_gcd : FnScope N__law_gcd P__law_gcd (defScope s__law_gcd) := ⟨rfl, rfl, rfl, by decide +kernel, rfl, by decide +kernel, by decide +kernel⟩
abbrev s__law_fr : Stmt := topS 32
abbrev N__law_fr : List Str := ["a", "b", "by"]
abbrev P__law_fr : List Str := ["a", "b"]
theorem sc__law_fr : FnScope N__law_fr P__law_fr (defScope s__law_fr) := ⟨rfl, rfl, rfl, by decide +kernel, rfl, by decide +kernel, by decide +kernel⟩
abbrev s__law_plus : Stmt := topS 33
abbrev N__law_plus : List Str := ["x", "y"]
abbrev P__law_plus : List Str := ["x", "y"]
theorem sc__law_plus : FnScope N__law_plus P__law_plus (defScope s__law_plus) := ⟨rfl, rfl, rfl, by decide +kernel, rfl, by decide +kernel, by decide +kernel⟩
abbrev s__law_minus : Stmt := topS 34
abbrev N__law_minus : List Str := ["x", "y"]
abbrev P__law_minus : List Str := ["x", "y"]
theorem sc__law_minus : FnScope N__law_minus P__law_minus (defScope s__law_minus) := ⟨rfl, rfl, rfl, by decide +kernel, rfl, by decide +kernel, by decide +kernel⟩
abbrev s__law_times : Stmt := topS 35
abbrev N__law_times : List Str := ["x", "y"]
abbrev P__law_times : List Str := ["x", "y"]
theorem sc__law_times : FnScope N__law_times P__law_times (defScope s__law_times) := ⟨rfl, rfl, rfl, by decide +kernel, rfl, by decide +kernel, by decide +kernel⟩
abbrev s__law_below : Stmt := topS 36
abbrev N__law_below : List Str := ["x", "y"]
abbrev P__law_below : List Str := ["x", "y"]
theorem sc__law_below : FnScope N__law_below P__law_below (defScope s__law_below) := ⟨rfl, rfl, rfl, by decide +kernel, rfl, by decide +kernel, by decide +kernel⟩
abbrev s__law_ten : Stmt := topS 37
abbrev N__law_ten : List Str := ["n", "out", "k"]
abbrev P__law_ten : List Str := ["n"]
theorem sc__law_ten : FnScope N__law_ten P__law_ten (defScope s__law_ten) := ⟨rfl, rfl, rfl, by decide +kernel, rfl, by decide +kernel, by decide +kernel⟩
abbrev s__law_printed : Stmt := topS 38
abbrev N__law_printed : List Str := ["x", "places", "mode", "a", "b", "y", "rest"]
abbrev P__law_printed : List Str := ["x", "places", "mode"]
theorem sc__law_printed : FnScope N__law_printed P__law_printed (defScope s__law_printed) := ⟨rfl, rfl, rfl, by decide +kernel, rfl, by decide +kernel, by decide +kernel⟩
abbrev s__law_stripe : Stmt := topS 39
abbrev N__law_stripe : List Str := ["y", "places", "mode", "unit", "both"]
abbrev P__law_stripe : List Str := ["y", "places", "mode"]
theorem sc__law_stripe : FnScope N__law_stripe P__law_stripe (defScope s__law_stripe) := ⟨rfl, rfl, rfl, by decide +kernel, rfl, by decide +kernel, by decide +kernel⟩
abbrev s__law_choose : Stmt := topS 40
abbrev N__law_choose : List Str := ["n", "j", "top", "below", "k"]
abbrev P__law_choose : List Str := ["n", "j"]
theorem sc__law_choose : FnScope N__law_choose P__law_choose (defScope s__law_choose) := ⟨rfl, rfl, rfl, by decide +kernel, rfl, by decide +kernel, by decide +kernel⟩
abbrev s__law_at : Stmt := topS 41
abbrev N__law_at : List Str := ["start", "hand", "n", "out", "j"]
abbrev P__law_at : List Str := ["start", "hand", "n"]
theorem sc__law_at : FnScope N__law_at P__law_at (defScope s__law_at) := ⟨rfl, rfl, rfl, by decide +kernel, rfl, by decide +kernel, by decide +kernel⟩
abbrev s__law_no_hand : Stmt := topS 42
abbrev N__law_no_hand : List Str := ["start", "one"]
abbrev P__law_no_hand : List Str := ["start"]
theorem sc__law_no_hand : FnScope N__law_no_hand P__law_no_hand (defScope s__law_no_hand) := ⟨rfl, rfl, rfl, by decide +kernel, rfl, by decide +kernel, by decide +kernel⟩
abbrev s__law_far : Stmt := topS 43
abbrev N__law_far : List Str := ["start", "n", "out", "j"]
abbrev P__law_far : List Str := ["start", "n"]
theorem sc__law_far : FnScope N__law_far P__law_far (defScope s__law_far) := ⟨rfl, rfl, rfl, by decide +kernel, rfl, by decide +kernel, by decide +kernel⟩
abbrev s__law_start : Stmt := topS 44
abbrev N__law_start : List Str := ["bag", "most", "d", "values", "j", "units"]
abbrev P__law_start : List Str := ["bag", "most"]
theorem sc__law_start : FnScope N__law_start P__law_start (defScope s__law_start) := ⟨rfl, rfl, rfl, by decide +kernel, rfl, by decide +kernel, by decide +kernel⟩
abbrev s__law_hand : Stmt := topS 45
abbrev N__law_hand : List Str := ["bag", "start", "out", "unit"]
abbrev P__law_hand : List Str := ["bag", "start"]
theorem sc__law_hand : FnScope N__law_hand P__law_hand (defScope s__law_hand) := ⟨rfl, rfl, rfl, by decide +kernel, rfl, by decide +kernel, by decide +kernel⟩
abbrev s__law_page : Stmt := topS 46
abbrev N__law_page : List Str := ["bag", "most"]
abbrev P__law_page : List Str := ["bag", "most"]
theorem sc__law_page : FnScope N__law_page P__law_page (defScope s__law_page) := ⟨rfl, rfl, rfl, by decide +kernel, rfl, by decide +kernel, by decide +kernel⟩
abbrev s__law_page_of : Stmt := topS 47
abbrev N__law_page_of : List Str := ["page", "hand", "n"]
abbrev P__law_page_of : List Str := ["page", "hand"]
theorem sc__law_page_of : FnScope N__law_page_of P__law_page_of (defScope s__law_page_of) := ⟨rfl, rfl, rfl, by decide +kernel, rfl, by decide +kernel, by decide +kernel⟩
abbrev s__law_touching : Stmt := topS 48
abbrev N__law_touching : List Str := ["bag", "mode", "y", "unit", "end", "value", "rest"]
abbrev P__law_touching : List Str := ["bag", "mode"]
theorem sc__law_touching : FnScope N__law_touching P__law_touching (defScope s__law_touching) := ⟨rfl, rfl, rfl, by decide +kernel, rfl, by decide +kernel, by decide +kernel⟩
abbrev s__law_is_told : Stmt := topS 49
abbrev N__law_is_told : List Str := ["bag", "page", "by_name", "start", "places", "mode", "k", "hand", "seen", "n", "at", "far", "least", "most"]
abbrev P__law_is_told : List Str := ["bag", "page", "by_name"]
theorem sc__law_is_told : FnScope N__law_is_told P__law_is_told (defScope s__law_is_told) := ⟨rfl, rfl, rfl, by decide +kernel, rfl, by decide +kernel, by decide +kernel⟩
abbrev s_law : Stmt := topS 50
abbrev N_law : List Str := ["script", "bag", "turn", "page"]
abbrev P_law : List Str := ["script"]
theorem sc_law : FnScope N_law P_law (defScope s_law) := ⟨rfl, rfl, rfl, by decide +kernel, rfl, by decide +kernel, by decide +kernel⟩
def B_frac : PTS :=
    (pSeq (pSet 2 (pCl oGcd (pACons (pVar 0) (pACons (pVar 1) pANil))))
    (pSeq (pIfS (pTB (pOp oLt (pVar 1) (pC (.int 0)))) (pSet 2 (pUn oNeg (pVar 2))) pNext)
    (pRet (pTup (pACons (pOp oFdiv (pVar 0) (pVar 2)) (pACons (pOp oFdiv (pVar 1) (pVar 2)) pANil))))))
instance mo_frac : MoS (B_frac) := by unfold B_frac; infer_instance
def F_frac : PF0 := pDef0 2 3 (B_frac)
instance moF_frac : Mo0 (F_frac) := by unfold F_frac; infer_instance

def B_whole : PTS :=
    (pRet (pTup (pACons (pVar 0) (pACons (pC (.int 1)) pANil))))
instance mo_whole : MoS (B_whole) := by unfold B_whole; infer_instance
def F_whole : PF0 := pDef0 1 1 (B_whole)
instance moF_whole : Mo0 (F_whole) := by unfold F_whole; infer_instance

def B_plus : PTS :=
    (pRet (pCl (c0 F_frac) (pACons (pOp oAdd (pOp oMul (pOp oIx (pVar 0) (pC (.int 0))) (pOp oIx (pVar 1) (pC (.int 1)))) (pOp oMul (pOp oIx (pVar 1) (pC (.int 0))) (pOp oIx (pVar 0) (pC (.int 1))))) (pACons (pOp oMul (pOp oIx (pVar 0) (pC (.int 1))) (pOp oIx (pVar 1) (pC (.int 1)))) pANil))))
instance mo_plus : MoS (B_plus) := by unfold B_plus; infer_instance
def F_plus : PF0 := pDef0 2 2 (B_plus)
instance moF_plus : Mo0 (F_plus) := by unfold F_plus; infer_instance

def B_minus : PTS :=
    (pRet (pCl (c0 F_frac) (pACons (pOp oSub (pOp oMul (pOp oIx (pVar 0) (pC (.int 0))) (pOp oIx (pVar 1) (pC (.int 1)))) (pOp oMul (pOp oIx (pVar 1) (pC (.int 0))) (pOp oIx (pVar 0) (pC (.int 1))))) (pACons (pOp oMul (pOp oIx (pVar 0) (pC (.int 1))) (pOp oIx (pVar 1) (pC (.int 1)))) pANil))))
instance mo_minus : MoS (B_minus) := by unfold B_minus; infer_instance
def F_minus : PF0 := pDef0 2 2 (B_minus)
instance moF_minus : Mo0 (F_minus) := by unfold F_minus; infer_instance

def B_times : PTS :=
    (pRet (pCl (c0 F_frac) (pACons (pOp oMul (pOp oIx (pVar 0) (pC (.int 0))) (pOp oIx (pVar 1) (pC (.int 0)))) (pACons (pOp oMul (pOp oIx (pVar 0) (pC (.int 1))) (pOp oIx (pVar 1) (pC (.int 1)))) pANil))))
instance mo_times : MoS (B_times) := by unfold B_times; infer_instance
def F_times : PF0 := pDef0 2 2 (B_times)
instance moF_times : Mo0 (F_times) := by unfold F_times; infer_instance

def B_floor_of : PTS :=
    (pRet (pOp oFdiv (pOp oIx (pVar 0) (pC (.int 0))) (pOp oIx (pVar 0) (pC (.int 1)))))
instance mo_floor_of : MoS (B_floor_of) := by unfold B_floor_of; infer_instance
def F_floor_of : PF0 := pDef0 1 1 (B_floor_of)
instance moF_floor_of : Mo0 (F_floor_of) := by unfold F_floor_of; infer_instance

def B_total_of : PTS :=
    (pSeq (pAsg (pTup (pACons (pC (.int 0)) (pACons (pC (.int 1)) pANil))) (gT 2 (gsCons (gN 1) (gsCons (gN 2) gsNil))))
    (pSeq (pFor (iAny (pVar 0)) (gN 3)
    (pSeq (pPar 1 2 (pOp oAdd (pOp oMul (pVar 1) (pOp oIx (pVar 3) (pC (.int 1)))) (pOp oMul (pOp oIx (pVar 3) (pC (.int 0))) (pVar 2))) (pOp oMul (pVar 2) (pOp oIx (pVar 3) (pC (.int 1)))))
    (pIfS (pTB (pOp oGt (pVar 2) (pOp oShl (pC (.int 1)) (pC (.int 400))))) (pAsg (pCl (c0 F_frac) (pACons (pVar 1) (pACons (pVar 2) pANil))) (gT 2 (gsCons (gN 1) (gsCons (gN 2) gsNil)))) pNext)))
    (pRet (pCl (c0 F_frac) (pACons (pVar 1) (pACons (pVar 2) pANil))))))
instance mo_total_of : MoS (B_total_of) := by unfold B_total_of; infer_instance
@[irreducible] def F_total_of : PFS := pDefC 1 4 (B_total_of)
instance moF_total_of : MoF (F_total_of) := by unfold F_total_of; infer_instance

def B_product_sum : PTS :=
    (pRet (pCl F_total_of (pACons (pLc (iRange1 (pCl oLen (pACons (pVar 0) pANil))) (gN 2) pYes (pCl (c0 F_times) (pACons (pOp oIx (pVar 0) (pVar 2)) (pACons (pOp oIx (pVar 1) (pVar 2)) pANil))) [2]) pANil)))
instance mo_product_sum : MoS (B_product_sum) := by unfold B_product_sum; infer_instance
@[irreducible] def F_product_sum : PFS := pDefC 2 3 (B_product_sum)
instance moF_product_sum : MoF (F_product_sum) := by unfold F_product_sum; infer_instance

def B_tens : PTS :=
    (pSeq (pSet 1 (pC (.int 1)))
    (pSeq (pFor (iRange1 (pCl oAbs (pACons (pVar 0) pANil))) (gN 2)
    (pAug 1 oMulI (pC (.int 10))))
    (pRet (pIf (pTB (pOp oGe (pVar 0) (pC (.int 0)))) (pTup (pACons (pVar 1) (pACons (pC (.int 1)) pANil))) (pTup (pACons (pC (.int 1)) (pACons (pVar 1) pANil)))))))
instance mo_tens : MoS (B_tens) := by unfold B_tens; infer_instance
def F_tens : PF0 := pDef0 1 3 (B_tens)
instance moF_tens : Mo0 (F_tens) := by unfold F_tens; infer_instance

def B_choose : PTS :=
    (pSeq (pSet 2 (pC (.int 1)))
    (pSeq (pFor (iRange1 (pVar 1)) (gN 3)
    (pSet 2 (pOp oFdiv (pOp oMul (pVar 2) (pOp oSub (pVar 0) (pVar 3))) (pOp oAdd (pVar 3) (pC (.int 1))))))
    (pRet (pVar 2))))
instance mo_choose : MoS (B_choose) := by unfold B_choose; infer_instance
def F_choose : PF0 := pDef0 2 4 (B_choose)
instance moF_choose : Mo0 (F_choose) := by unfold F_choose; infer_instance

def B_printed : PTS :=
    (pSeq (pSet 3 (pCl (c0 F_times) (pACons (pVar 0) (pACons (pCl (c0 F_tens) (pACons (pVar 1) pANil)) pANil))))
    (pSeq (pIfS (pTB (pOp oEq (pVar 2) (pC (.str "down")))) (pRet (pCl (c0 F_floor_of) (pACons (pVar 3) pANil))) pNext)
    (pSeq (pSet 4 (pCl (c0 F_floor_of) (pACons (pCl (c0 F_plus) (pACons (pVar 3) (pACons (pTup (pACons (pC (.int 1)) (pACons (pC (.int 2)) pANil))) pANil))) pANil)))
    (pSeq (pIfS (pAnd (pTB (pOp oEq (pVar 2) (pC (.str "even")))) (pAnd (pTB (pOp oEq (pOp oIx (pVar 3) (pC (.int 1))) (pC (.int 2)))) (pTB (pOp oEq (pOp oMod (pVar 4) (pC (.int 2))) (pC (.int 1)))))) (pRet (pOp oSub (pVar 4) (pC (.int 1)))) pNext)
    (pRet (pVar 4))))))
instance mo_printed : MoS (B_printed) := by unfold B_printed; infer_instance
def F_printed : PF0 := pDef0 3 5 (B_printed)
instance moF_printed : Mo0 (F_printed) := by unfold F_printed; infer_instance

def B_choices_at : PTS :=
    (pRet (pLc (iRange1 (pCl oLen (pACons (pOp oIx (pVar 0) (pC (.int 0))) pANil))) (gN 2) pYes (pCl (c0 F_choose) (pACons (pVar 1) (pACons (pVar 2) pANil))) [2]))
instance mo_choices_at : MoS (B_choices_at) := by unfold B_choices_at; infer_instance
@[irreducible] def F_choices_at : PFS := pDefS 2 3 (B_choices_at)
instance moF_choices_at : MoF (F_choices_at) := by unfold F_choices_at; infer_instance

def B_slips_summed : PTS :=
    (pRet (pCl F_product_sum (pACons (pVar 0) (pACons (pLc (iAny (pVar 1)) (gN 2) pYes (pCl (c0 F_whole) (pACons (pVar 2) pANil)) [2]) pANil))))
instance mo_slips_summed : MoS (B_slips_summed) := by unfold B_slips_summed; infer_instance
@[irreducible] def F_slips_summed : PFS := pDefC 2 3 (B_slips_summed)
instance moF_slips_summed : MoF (F_slips_summed) := by unfold F_slips_summed; infer_instance

def B_plain_line : PTS :=
    (pRet (pCl F_slips_summed (pACons (pOp oIx (pVar 0) (pC (.int 0))) (pACons (pCl F_choices_at (pACons (pVar 0) (pACons (pVar 1) pANil))) pANil))))
instance mo_plain_line : MoS (B_plain_line) := by unfold B_plain_line; infer_instance
def F_plain_line : PF0 := pDef0 2 2 (B_plain_line)
instance moF_plain_line : Mo0 (F_plain_line) := by unfold F_plain_line; infer_instance

def B_columns_at : PTS :=
    (pSeq (pSet 2 (pCl oLen (pACons (pVar 0) pANil)))
    (pRet (pLc (iRange1 (pVar 2)) (gN 3) pYes (pCl F_slips_summed (pACons (pSl (pVar 0) (pPart (pVar 3)) pNoPart) (pACons (pLc (iRange1 (pOp oSub (pVar 2) (pVar 3))) (gN 4) pYes (pCl (c0 F_choose) (pACons (pVar 1) (pACons (pVar 4) pANil))) [4]) pANil))) [3])))
instance mo_columns_at : MoS (B_columns_at) := by unfold B_columns_at; infer_instance
@[irreducible] def F_columns_at : PFS := pDefS 2 5 (B_columns_at)
instance moF_columns_at : MoF (F_columns_at) := by unfold F_columns_at; infer_instance

def B_turned_on : PTS :=
    (pSeq (pSet 1 (pLc (iZip (pVar 0) (pSl (pVar 0) (pPart (pC (.int 1))) pNoPart)) (gT 2 (gsCons (gN 2) (gsCons (gN 3) gsNil))) pYes (pCl (c0 F_plus) (pACons (pVar 2) (pACons (pVar 3) pANil))) [2, 3]))
    (pRet (pOp oAdd (pVar 1) (pSl (pVar 0) (pPart (pUn oNeg (pC (.int 1)))) pNoPart))))
instance mo_turned_on : MoS (B_turned_on) := by unfold B_turned_on; infer_instance
@[irreducible] def F_turned_on : PFS := pDefS 1 4 (B_turned_on)
instance moF_turned_on : MoF (F_turned_on) := by unfold F_turned_on; infer_instance

def B_rows_turned : PTS :=
    (pSeq (pSet 4 (pLc (iZip (pOp oIx (pVar 0) (pC (.int 0))) (pVar 1)) (gT 2 (gsCons (gN 5) (gsCons (gN 6) gsNil))) pYes (pCl (c0 F_plus) (pACons (pVar 5) (pACons (pVar 6) pANil))) [5, 6]))
    (pSeq (pPar 7 8 (pCl F_columns_at (pACons (pVar 4) (pACons (pVar 2) pANil))) (pLst pANil))
    (pSeq (pFor (iRange1 (pVar 3)) (gN 9)
    (pSeq (pDrop (pAppend (pVar 8) (pOp oIx (pVar 7) (pC (.int 0)))))
    (pSet 7 (pCl F_turned_on (pACons (pVar 7) pANil)))))
    (pRet (pCl oTuple (pACons (pVar 8) pANil))))))
instance mo_rows_turned : MoS (B_rows_turned) := by unfold B_rows_turned; infer_instance
def F_rows_turned : PF0 := pDef0 4 10 (B_rows_turned)
instance moF_rows_turned : Mo0 (F_rows_turned) := by unfold F_rows_turned; infer_instance

def B_reach_at : PTS :=
    (pRet (pCl F_slips_summed (pACons (pOp oIx (pVar 0) (pC (.int 1))) (pACons (pLc (iAny (pCl F_choices_at (pACons (pVar 0) (pACons (pVar 1) pANil)))) (gN 2) pYes (pCl oAbs (pACons (pVar 2) pANil)) [2]) pANil))))
instance mo_reach_at : MoS (B_reach_at) := by unfold B_reach_at; infer_instance
def F_reach_at : PF0 := pDef0 2 3 (B_reach_at)
instance moF_reach_at : Mo0 (F_reach_at) := by unfold F_reach_at; infer_instance

def B_stretch : PTS :=
    (pSeq (pPar 2 3 (pCl (c0 F_plain_line) (pACons (pVar 0) (pACons (pVar 1) pANil))) (pCl (c0 F_reach_at) (pACons (pVar 0) (pACons (pVar 1) pANil))))
    (pRet (pTup (pACons (pCl (c0 F_minus) (pACons (pVar 2) (pACons (pVar 3) pANil))) (pACons (pCl (c0 F_plus) (pACons (pVar 2) (pACons (pVar 3) pANil))) pANil)))))
instance mo_stretch : MoS (B_stretch) := by unfold B_stretch; infer_instance
def F_stretch : PF0 := pDef0 2 4 (B_stretch)
instance moF_stretch : Mo0 (F_stretch) := by unfold F_stretch; infer_instance

def B_page_of : PTS :=
    (pSeq (pAsg (pVar 0) (gT 5 (gsCons (gN 2) (gsCons (gN 3) (gsCons (gN 4) (gsCons (gN 5) (gsCons (gN 6) gsNil)))))))
    (pRet (pScope (pCl oTuple (pACons (pLc (iAny (pCl (c0 F_rows_turned) (pACons (pVar 2) (pACons (pVar 1) (pACons (pVar 3) (pACons (pVar 4) pANil)))))) (gN 7) pYes (pCl (c0 F_printed) (pACons (pVar 7) (pACons (pVar 5) (pACons (pVar 6) pANil)))) [7]) pANil)))))
instance mo_page_of : MoS (B_page_of) := by unfold B_page_of; infer_instance
def F_page_of : PF0 := pDef0 2 8 (B_page_of)
instance moF_page_of : Mo0 (F_page_of) := by unfold F_page_of; infer_instance

def B_print_ends : PTS :=
    (pSeq (pAsg (pCl (c0 F_stretch) (pACons (pOp oIx (pVar 0) (pC (.int 0))) (pACons (pVar 1) pANil))) (gT 2 (gsCons (gN 2) (gsCons (gN 3) gsNil))))
    (pRet (pTup (pACons (pCl (c0 F_printed) (pACons (pVar 2) (pACons (pOp oIx (pVar 0) (pC (.int 3))) (pACons (pOp oIx (pVar 0) (pC (.int 4))) pANil)))) (pACons (pCl (c0 F_printed) (pACons (pVar 3) (pACons (pOp oIx (pVar 0) (pC (.int 3))) (pACons (pOp oIx (pVar 0) (pC (.int 4))) pANil)))) pANil)))))
instance mo_print_ends : MoS (B_print_ends) := by unfold B_print_ends; infer_instance
def F_print_ends : PF0 := pDef0 2 4 (B_print_ends)
instance moF_print_ends : Mo0 (F_print_ends) := by unfold F_print_ends; infer_instance

def B_can_print : PTS :=
    (pSeq (pAsg (pCl (c0 F_print_ends) (pACons (pVar 0) (pACons (pVar 1) pANil))) (gT 2 (gsCons (gN 2) (gsCons (gN 3) gsNil))))
    (pRet (pTupR (rTwo (pVar 2) (pOp oAdd (pVar 3) (pC (.int 1)))))))
instance mo_can_print : MoS (B_can_print) := by unfold B_can_print; infer_instance
def F_can_print : PF0 := pDef0 2 4 (B_can_print)
instance moF_can_print : Mo0 (F_can_print) := by unfold F_can_print; infer_instance

def B__law_bag : PTS :=
    (pSeq (pSet 1 (pOp oAdd (pLc (iAny (pVar 0)) (gN 2) pYes (pCl oAbs (pACons (pCl oInt (pACons (pVar 2) pANil)) pANil)) [2]) (pLst (pACons (pC (.int 7)) pANil))))
    (pSeq (pSet 3 (pLst pANil))
    (pSeq (pIfS (pTB (pOp oEq (pOp oMod (pCl oInt (pACons (pOp oIx (pVar 1) (pC (.int 0))) pANil)) (pC (.int 2))) (pC (.int 0)))) (pSeq (pSet 3 (pLc (iAny (pVar 1)) (gN 2) (pTB (pOp oGe (pVar 2) (pOp oPow (pC (.int 10)) (pC (.int 18))))) (pOp oFdiv (pVar 2) (pC (.int 2))) [2]))
    (pDrop (pReverse (pVar 3)))) pNext)
    (pRet (pLst (pACons (pC (.int 0)) (pACons (pC (.int 0)) (pACons (pVar 3) (pACons (pLc (iAny (pVar 1)) (gN 2) pYes (pOp oMod (pCl oInt (pACons (pVar 2) pANil)) (pC (.int 2147483647))) [2]) pANil)))))))))
instance mo__law_bag : MoS (B__law_bag) := by unfold B__law_bag; infer_instance
def X__law_bag : PFS := pDefS 1 4 (B__law_bag)
instance moF__law_bag : MoF (X__law_bag) := by unfold X__law_bag; infer_instance

def B__law_draw : PTS :=
    (pSeq (pAsg (pOp oAdd (pOp oIx (pVar 0) (pC (.int 1))) (pC (.int 1))) (gIx (pVar 0) (pC (.int 1))))
    (pSeq (pIfS (pAnd (pTB (pOp oEq (pOp oIx (pVar 0) (pC (.int 0))) (pC (.int 0)))) (pTB (pOp oGt (pCl oLen (pACons (pOp oIx (pVar 0) (pC (.int 2))) pANil)) (pC (.int 0))))) (pAsg (pPop (pOp oIx (pVar 0) (pC (.int 2)))) (gIx (pVar 0) (pC (.int 0)))) pNext)
    (pSeq (pIfS (pTB (pOp oGt (pOp oIx (pVar 0) (pC (.int 0))) (pC (.int 0)))) (pSeq (pSet 2 (pOp oMod (pCl oInt (pACons (pOp oIx (pVar 0) (pC (.int 0))) pANil)) (pVar 1)))
    (pSeq (pAsg (pOp oFdiv (pOp oIx (pVar 0) (pC (.int 0))) (pVar 1)) (gIx (pVar 0) (pC (.int 0))))
    (pRet (pVar 2)))) pNext)
    (pSeq (pSet 3 (pOp oIx (pOp oIx (pVar 0) (pC (.int 3))) (pOp oMod (pCl oInt (pACons (pOp oIx (pVar 0) (pC (.int 1))) pANil)) (pCl oLen (pACons (pOp oIx (pVar 0) (pC (.int 3))) pANil)))))
    (pSeq (pSet 4 (pOp oMod (pCl oInt (pACons (pOp oAdd (pOp oAdd (pOp oMul (pVar 3) (pC (.int 48271))) (pOp oMul (pOp oIx (pVar 0) (pC (.int 1))) (pC (.int 69621)))) (pC (.int 1))) pANil)) (pC (.int 2147483647))))
    (pRet (pOp oMod (pOp oFdiv (pOp oMod (pCl oInt (pACons (pOp oAdd (pOp oAdd (pOp oMul (pVar 4) (pVar 4)) (pOp oMul (pVar 4) (pC (.int 16807)))) (pOp oMul (pOp oIx (pVar 0) (pC (.int 1))) (pC (.int 40014)))) pANil)) (pC (.int 2147483629))) (pC (.int 32))) (pVar 1))))))))
instance mo__law_draw : MoS (B__law_draw) := by unfold B__law_draw; infer_instance
def X__law_draw : PFS := pDefS 2 5 (B__law_draw)
instance moF__law_draw : MoF (X__law_draw) := by unfold X__law_draw; infer_instance

def B__law_pick : PTS :=
    (pRet (pOp oIx (pVar 1) (pCl (c0 F_draw) (pACons (pVar 0) (pACons (pCl oLen (pACons (pVar 1) pANil)) pANil)))))
instance mo__law_pick : MoS (B__law_pick) := by unfold B__law_pick; infer_instance
@[irreducible] def F__law_pick : PFS := pDefC 2 2 (B__law_pick)
instance moF__law_pick : MoF (F__law_pick) := by unfold F__law_pick; infer_instance

def B__law_same (Fr : PF0) : PTS :=
    (pSeq (pIfS (pTB (pOp oIsN (pVar 1) (pC .non))) (pRet (pOp oIsN (pVar 0) (pC .non))) pNext)
    (pSeq (pIfS (pOr (pTruth (pIsi .bool (pVar 1))) (pTruth (pIsi .bool (pVar 0)))) (pRet (pAndV (pIsi .bool (pVar 1)) (pAndV (pIsi .bool (pVar 0)) (pOp oEq (pVar 0) (pVar 1))))) pNext)
    (pSeq (pIfS (pTruth (pIsi .int (pVar 1))) (pRet (pAndV (pIsi .int (pVar 0)) (pOp oEq (pVar 0) (pVar 1)))) pNext)
    (pSeq (pIfS (pTruth (pIsi .str (pVar 1))) (pRet (pAndV (pIsi .str (pVar 0)) (pOp oEq (pVar 0) (pVar 1)))) pNext)
    (pSeq (pIfS (pOr (pNot (pTruth (pIsi .tuple (pVar 1)))) (pOr (pNot (pTruth (pIsi .tuple (pVar 0)))) (pTB (pOp oNe (pCl oLen (pACons (pVar 0) pANil)) (pCl oLen (pACons (pVar 1) pANil)))))) (pRet (pC (.bl false))) pNext)
    (pSeq (pFor (iRange1 (pCl oLen (pACons (pVar 1) pANil))) (gN 2)
    (pIfS (pNot (pTruth (pCl (c0 Fr) (pACons (pOp oIx (pVar 0) (pVar 2)) (pACons (pOp oIx (pVar 1) (pVar 2)) pANil))))) (pRet (pC (.bl false))) pNext))
    (pRet (pC (.bl true)))))))))
instance mo__law_same (Fr : PF0) [Mo0 Fr] : MoS (B__law_same Fr) := by unfold B__law_same; infer_instance
def X__law_same (Fr : PF0) : PF0 := pDef0 2 3 (B__law_same Fr)
instance moF__law_same (Fr : PF0) [Mo0 Fr] : Mo0 (X__law_same Fr) := by unfold X__law_same; infer_instance
abbrev F__law_same : PF0 := F_same true 6

def B__law_gcd : PTS :=
    (pSeq (pPar 0 1 (pCl oAbs (pACons (pVar 0) pANil)) (pCl oAbs (pACons (pVar 1) pANil)))
    (pSeq (pWhile (pTB (pOp oNe (pVar 1) (pC (.int 0))))
    (pPar 0 1 (pVar 1) (pOp oMod (pCl oInt (pACons (pVar 0) pANil)) (pVar 1))))
    (pRet (pVar 0))))
instance mo__law_gcd : MoS (B__law_gcd) := by unfold B__law_gcd; infer_instance
def F__law_gcd : PF0 := pDef0 2 2 (B__law_gcd)
instance moF__law_gcd : Mo0 (F__law_gcd) := by unfold F__law_gcd; infer_instance

def B__law_fr : PTS :=
    (pSeq (pSet 2 (pCl (c0 F__law_gcd) (pACons (pVar 0) (pACons (pVar 1) pANil))))
    (pSeq (pIfS (pTB (pOp oLt (pVar 1) (pC (.int 0)))) (pSet 2 (pOp oSub (pC (.int 0)) (pVar 2))) pNext)
    (pRet (pTup (pACons (pOp oFdiv (pVar 0) (pVar 2)) (pACons (pOp oFdiv (pVar 1) (pVar 2)) pANil))))))
instance mo__law_fr : MoS (B__law_fr) := by unfold B__law_fr; infer_instance
def F__law_fr : PF0 := pDef0 2 3 (B__law_fr)
instance moF__law_fr : Mo0 (F__law_fr) := by unfold F__law_fr; infer_instance

def B__law_plus : PTS :=
    (pRet (pCl (c0 F__law_fr) (pACons (pOp oAdd (pOp oMul (pOp oIx (pVar 0) (pC (.int 0))) (pOp oIx (pVar 1) (pC (.int 1)))) (pOp oMul (pOp oIx (pVar 1) (pC (.int 0))) (pOp oIx (pVar 0) (pC (.int 1))))) (pACons (pOp oMul (pOp oIx (pVar 0) (pC (.int 1))) (pOp oIx (pVar 1) (pC (.int 1)))) pANil))))
instance mo__law_plus : MoS (B__law_plus) := by unfold B__law_plus; infer_instance
def F__law_plus : PF0 := pDef0 2 2 (B__law_plus)
instance moF__law_plus : Mo0 (F__law_plus) := by unfold F__law_plus; infer_instance

def B__law_minus : PTS :=
    (pRet (pCl (c0 F__law_fr) (pACons (pOp oSub (pOp oMul (pOp oIx (pVar 0) (pC (.int 0))) (pOp oIx (pVar 1) (pC (.int 1)))) (pOp oMul (pOp oIx (pVar 1) (pC (.int 0))) (pOp oIx (pVar 0) (pC (.int 1))))) (pACons (pOp oMul (pOp oIx (pVar 0) (pC (.int 1))) (pOp oIx (pVar 1) (pC (.int 1)))) pANil))))
instance mo__law_minus : MoS (B__law_minus) := by unfold B__law_minus; infer_instance
def F__law_minus : PF0 := pDef0 2 2 (B__law_minus)
instance moF__law_minus : Mo0 (F__law_minus) := by unfold F__law_minus; infer_instance

def B__law_times : PTS :=
    (pRet (pCl (c0 F__law_fr) (pACons (pOp oMul (pOp oIx (pVar 0) (pC (.int 0))) (pOp oIx (pVar 1) (pC (.int 0)))) (pACons (pOp oMul (pOp oIx (pVar 0) (pC (.int 1))) (pOp oIx (pVar 1) (pC (.int 1)))) pANil))))
instance mo__law_times : MoS (B__law_times) := by unfold B__law_times; infer_instance
def F__law_times : PF0 := pDef0 2 2 (B__law_times)
instance moF__law_times : Mo0 (F__law_times) := by unfold F__law_times; infer_instance

def B__law_below : PTS :=
    (pRet (pOp oLt (pOp oMul (pOp oIx (pVar 0) (pC (.int 0))) (pOp oIx (pVar 1) (pC (.int 1)))) (pOp oMul (pOp oIx (pVar 1) (pC (.int 0))) (pOp oIx (pVar 0) (pC (.int 1))))))
instance mo__law_below : MoS (B__law_below) := by unfold B__law_below; infer_instance
def F__law_below : PF0 := pDef0 2 2 (B__law_below)
instance moF__law_below : Mo0 (F__law_below) := by unfold F__law_below; infer_instance

def B__law_ten : PTS :=
    (pSeq (pSet 1 (pC (.int 1)))
    (pSeq (pFor (iRange1 (pVar 0)) (gN 2)
    (pSet 1 (pOp oMul (pVar 1) (pC (.int 10)))))
    (pRet (pVar 1))))
instance mo__law_ten : MoS (B__law_ten) := by unfold B__law_ten; infer_instance
def F__law_ten : PF0 := pDef0 1 3 (B__law_ten)
instance moF__law_ten : Mo0 (F__law_ten) := by unfold F__law_ten; infer_instance

def B__law_printed : PTS :=
    (pSeq (pPar 3 4 (pOp oMul (pOp oIx (pVar 0) (pC (.int 0))) (pCl (c0 F__law_ten) (pACons (pVar 1) pANil))) (pOp oIx (pVar 0) (pC (.int 1))))
    (pSeq (pSet 5 (pOp oFdiv (pVar 3) (pVar 4)))
    (pSeq (pSet 6 (pOp oSub (pVar 3) (pOp oMul (pVar 5) (pVar 4))))
    (pSeq (pIfS (pOr (pTB (pOp oEq (pVar 2) (pC (.str "down")))) (pTB (pOp oLt (pOp oMul (pC (.int 2)) (pVar 6)) (pVar 4)))) (pRet (pVar 5)) pNext)
    (pSeq (pIfS (pOr (pTB (pOp oGt (pOp oMul (pC (.int 2)) (pVar 6)) (pVar 4))) (pTB (pOp oEq (pVar 2) (pC (.str "up"))))) (pRet (pOp oAdd (pVar 5) (pC (.int 1)))) pNext)
    (pRet (pOp oAdd (pVar 5) (pOp oMod (pCl oInt (pACons (pVar 5) pANil)) (pC (.int 2))))))))))
instance mo__law_printed : MoS (B__law_printed) := by unfold B__law_printed; infer_instance
def F__law_printed : PF0 := pDef0 3 7 (B__law_printed)
instance moF__law_printed : Mo0 (F__law_printed) := by unfold F__law_printed; infer_instance

def B__law_stripe : PTS :=
    (pSeq (pSet 3 (pCl (c0 F__law_ten) (pACons (pVar 1) pANil)))
    (pSeq (pIfS (pTB (pOp oEq (pVar 2) (pC (.str "down")))) (pRet (pTup (pACons (pCl (c0 F__law_fr) (pACons (pVar 0) (pACons (pVar 3) pANil))) (pACons (pCl (c0 F__law_fr) (pACons (pOp oAdd (pVar 0) (pC (.int 1))) (pACons (pVar 3) pANil))) (pACons (pC (.bl true)) (pACons (pC (.bl false)) pANil)))))) pNext)
    (pSeq (pSet 4 (pOp oEq (pOp oMod (pCl oInt (pACons (pVar 0) pANil)) (pC (.int 2))) (pC (.int 0))))
    (pRet (pTup (pACons (pCl (c0 F__law_fr) (pACons (pOp oSub (pOp oMul (pC (.int 2)) (pVar 0)) (pC (.int 1))) (pACons (pOp oMul (pC (.int 2)) (pVar 3)) pANil))) (pACons (pCl (c0 F__law_fr) (pACons (pOp oAdd (pOp oMul (pC (.int 2)) (pVar 0)) (pC (.int 1))) (pACons (pOp oMul (pC (.int 2)) (pVar 3)) pANil))) (pACons (pOrV (pOp oEq (pVar 2) (pC (.str "up"))) (pVar 4)) (pACons (pAndV (pOp oEq (pVar 2) (pC (.str "even"))) (pVar 4)) pANil)))))))))
instance mo__law_stripe : MoS (B__law_stripe) := by unfold B__law_stripe; infer_instance
def F__law_stripe : PF0 := pDef0 3 5 (B__law_stripe)
instance moF__law_stripe : Mo0 (F__law_stripe) := by unfold F__law_stripe; infer_instance

def B__law_choose : PTS :=
    (pSeq (pAsg (pTup (pACons (pC (.int 1)) (pACons (pC (.int 1)) pANil))) (gT 2 (gsCons (gN 2) (gsCons (gN 3) gsNil))))
    (pSeq (pFor (iRange1 (pVar 1)) (gN 4)
    (pSeq (pSet 2 (pOp oMul (pVar 2) (pOp oSub (pVar 0) (pVar 4))))
    (pSet 3 (pOp oMul (pVar 3) (pOp oAdd (pVar 4) (pC (.int 1)))))))
    (pRet (pOp oFdiv (pVar 2) (pVar 3)))))
instance mo__law_choose : MoS (B__law_choose) := by unfold B__law_choose; infer_instance
def F__law_choose : PF0 := pDef0 2 5 (B__law_choose)
instance moF__law_choose : Mo0 (F__law_choose) := by unfold F__law_choose; infer_instance

def B__law_at : PTS :=
    (pSeq (pSet 3 (pTup (pACons (pC (.int 0)) (pACons (pC (.int 1)) pANil))))
    (pSeq (pFor (iRange1 (pCl oLen (pACons (pOp oIx (pVar 0) (pC (.int 0))) pANil))) (gN 4)
    (pSet 3 (pCl (c0 F__law_plus) (pACons (pVar 3) (pACons (pCl (c0 F__law_times) (pACons (pTup (pACons (pCl (c0 F__law_choose) (pACons (pVar 2) (pACons (pVar 4) pANil))) (pACons (pC (.int 1)) pANil))) (pACons (pCl (c0 F__law_plus) (pACons (pOp oIx (pOp oIx (pVar 0) (pC (.int 0))) (pVar 4)) (pACons (pOp oIx (pVar 1) (pVar 4)) pANil))) pANil))) pANil)))))
    (pRet (pVar 3))))
instance mo__law_at : MoS (B__law_at) := by unfold B__law_at; infer_instance
def F__law_at : PF0 := pDef0 3 5 (B__law_at)
instance moF__law_at : Mo0 (F__law_at) := by unfold F__law_at; infer_instance

def B__law_no_hand : PTS :=
    (pRet (pScope (pCl oTuple (pACons (pLc (iAny (pOp oIx (pVar 0) (pC (.int 0)))) (gN 1) pYes (pTup (pACons (pC (.int 0)) (pACons (pC (.int 1)) pANil))) [1]) pANil))))
instance mo__law_no_hand : MoS (B__law_no_hand) := by unfold B__law_no_hand; infer_instance
def F__law_no_hand : PF0 := pDef0 1 2 (B__law_no_hand)
instance moF__law_no_hand : Mo0 (F__law_no_hand) := by unfold F__law_no_hand; infer_instance

def B__law_far : PTS :=
    (pSeq (pSet 2 (pTup (pACons (pC (.int 0)) (pACons (pC (.int 1)) pANil))))
    (pSeq (pFor (iRange1 (pCl oLen (pACons (pOp oIx (pVar 0) (pC (.int 0))) pANil))) (gN 3)
    (pSet 2 (pCl (c0 F__law_plus) (pACons (pVar 2) (pACons (pCl (c0 F__law_times) (pACons (pTup (pACons (pCl oAbs (pACons (pCl (c0 F__law_choose) (pACons (pVar 1) (pACons (pVar 3) pANil))) pANil)) (pACons (pC (.int 1)) pANil))) (pACons (pOp oIx (pOp oIx (pVar 0) (pC (.int 1))) (pVar 3)) pANil))) pANil)))))
    (pRet (pVar 2))))
instance mo__law_far : MoS (B__law_far) := by unfold B__law_far; infer_instance
def F__law_far : PF0 := pDef0 2 4 (B__law_far)
instance moF__law_far : Mo0 (F__law_far) := by unfold F__law_far; infer_instance

def B__law_start : PTS :=
    (pSeq (pSet 2 (pCl (c0 F_draw) (pACons (pVar 0) (pACons (pOp oAdd (pVar 1) (pC (.int 1))) pANil))))
    (pSeq (pSet 3 (pScope (pCl oTuple (pACons (pLc (iRange1 (pOp oAdd (pVar 2) (pC (.int 1)))) (gN 4) pYes (pCl (c0 F__law_fr) (pACons (pOp oSub (pCl (c0 F_draw) (pACons (pVar 0) (pACons (pC (.int 401)) pANil))) (pC (.int 200))) (pACons (pCl F__law_pick (pACons (pVar 0) (pACons (pLst (pACons (pC (.int 1)) (pACons (pC (.int 2)) (pACons (pC (.int 10)) (pACons (pC (.int 100)) pANil))))) pANil))) pANil))) [4]) pANil))))
    (pSeq (pSet 5 (pScope (pCl oTuple (pACons (pLc (iRange1 (pOp oAdd (pVar 2) (pC (.int 1)))) (gN 4) pYes (pCl (c0 F__law_fr) (pACons (pCl F__law_pick (pACons (pVar 0) (pACons (pLst (pACons (pC (.int 0)) (pACons (pC (.int 0)) (pACons (pC (.int 1)) (pACons (pC (.int 5)) (pACons (pC (.int 50)) (pACons (pC (.int 100)) pANil))))))) pANil))) (pACons (pCl F__law_pick (pACons (pVar 0) (pACons (pLst (pACons (pC (.int 100)) (pACons (pC (.int 1000)) (pACons (pC (.int 200)) pANil)))) pANil))) pANil))) [4]) pANil))))
    (pRet (pTup (pACons (pVar 3) (pACons (pVar 5) pANil)))))))
instance mo__law_start : MoS (B__law_start) := by unfold B__law_start; infer_instance
def F__law_start : PF0 := pDef0 2 6 (B__law_start)
instance moF__law_start : Mo0 (F__law_start) := by unfold F__law_start; infer_instance

def B__law_hand : PTS :=
    (pSeq (pSet 2 (pLst pANil))
    (pSeq (pFor (iAny (pOp oIx (pVar 1) (pC (.int 1)))) (gN 3)
    (pSeq (pDrop (pAppend (pVar 2) (pCl (c0 F__law_times) (pACons (pVar 3) (pACons (pCl F__law_pick (pACons (pVar 0) (pACons (pLst (pACons (pTup (pACons (pC (.int 0)) (pACons (pC (.int 1)) pANil))) (pACons (pTup (pACons (pC (.int 1)) (pACons (pC (.int 1)) pANil))) (pACons (pTup (pACons (pUn oNeg (pC (.int 1))) (pACons (pC (.int 1)) pANil))) (pACons (pTup (pACons (pC (.int 1)) (pACons (pC (.int 2)) pANil))) (pACons (pTup (pACons (pUn oNeg (pC (.int 2))) (pACons (pC (.int 3)) pANil))) (pACons (pTup (pACons (pOp oSub (pCl (c0 F_draw) (pACons (pVar 0) (pACons (pC (.int 7)) pANil))) (pC (.int 3))) (pACons (pOp oAdd (pC (.int 1)) (pCl (c0 F_draw) (pACons (pVar 0) (pACons (pC (.int 3)) pANil)))) pANil))) pANil))))))) pANil))) pANil)))))
    (pIfS (pTruth (pCl (c0 F__law_below) (pACons (pVar 3) (pACons (pTup (pACons (pCl oAbs (pACons (pOp oIx (pOp oIx (pVar 2) (pUn oNeg (pC (.int 1)))) (pC (.int 0))) pANil)) (pACons (pOp oIx (pOp oIx (pVar 2) (pUn oNeg (pC (.int 1)))) (pC (.int 1))) pANil))) pANil)))) (pAsg (pVar 3) (gIx (pVar 2) (pUn oNeg (pC (.int 1))))) pNext)))
    (pRet (pCl oTuple (pACons (pVar 2) pANil)))))
instance mo__law_hand : MoS (B__law_hand) := by unfold B__law_hand; infer_instance
def F__law_hand : PF0 := pDef0 2 4 (B__law_hand)
instance moF__law_hand : Mo0 (F__law_hand) := by unfold F__law_hand; infer_instance

def B__law_page : PTS :=
    (pRet (pTup (pACons (pCl (c0 F__law_start) (pACons (pVar 0) (pACons (pVar 1) pANil))) (pACons (pOp oSub (pCl (c0 F_draw) (pACons (pVar 0) (pACons (pC (.int 21)) pANil))) (pC (.int 10))) (pACons (pOp oAdd (pC (.int 1)) (pCl (c0 F_draw) (pACons (pVar 0) (pACons (pC (.int 12)) pANil)))) (pACons (pCl (c0 F_draw) (pACons (pVar 0) (pACons (pC (.int 3)) pANil))) (pACons (pCl F__law_pick (pACons (pVar 0) (pACons (pLst (pACons (pC (.str "up")) (pACons (pC (.str "even")) (pACons (pC (.str "down")) pANil)))) pANil))) pANil)))))))
instance mo__law_page : MoS (B__law_page) := by unfold B__law_page; infer_instance
def F__law_page : PF0 := pDef0 2 2 (B__law_page)
instance moF__law_page : Mo0 (F__law_page) := by unfold F__law_page; infer_instance

def B__law_page_of : PTS :=
    (pRet (pScope (pCl oTuple (pACons (pLc (iRange (pOp oIx (pVar 0) (pC (.int 1))) (pOp oAdd (pOp oIx (pVar 0) (pC (.int 1))) (pOp oIx (pVar 0) (pC (.int 2))))) (gN 2) pYes (pCl (c0 F__law_printed) (pACons (pCl (c0 F__law_at) (pACons (pOp oIx (pVar 0) (pC (.int 0))) (pACons (pVar 1) (pACons (pVar 2) pANil)))) (pACons (pOp oIx (pVar 0) (pC (.int 3))) (pACons (pOp oIx (pVar 0) (pC (.int 4))) pANil)))) [2]) pANil))))
instance mo__law_page_of : MoS (B__law_page_of) := by unfold B__law_page_of; infer_instance
def F__law_page_of : PF0 := pDef0 2 3 (B__law_page_of)
instance moF__law_page_of : Mo0 (F__law_page_of) := by unfold F__law_page_of; infer_instance

def B__law_touching : PTS :=
    (pSeq (pPar 2 3 (pOp oSub (pCl (c0 F_draw) (pACons (pVar 0) (pACons (pC (.int 40)) pANil))) (pC (.int 20))) (pCl (c0 F__law_fr) (pACons (pOp oAdd (pC (.int 1)) (pCl (c0 F_draw) (pACons (pVar 0) (pACons (pC (.int 30)) pANil)))) (pACons (pC (.int 10)) pANil))))
    (pSeq (pSet 4 (pOp oIx (pCl (c0 F__law_stripe) (pACons (pVar 2) (pACons (pC (.int 1)) (pACons (pVar 1) pANil)))) (pCl (c0 F_draw) (pACons (pVar 0) (pACons (pC (.int 2)) pANil)))))
    (pSeq (pSet 5 (pIf (pTB (pOp oEq (pCl (c0 F_draw) (pACons (pVar 0) (pACons (pC (.int 2)) pANil))) (pC (.int 0)))) (pCl (c0 F__law_minus) (pACons (pVar 4) (pACons (pVar 3) pANil))) (pCl (c0 F__law_plus) (pACons (pVar 4) (pACons (pVar 3) pANil)))))
    (pSeq (pSet 6 (pIf (pTB (pOp oEq (pCl (c0 F_draw) (pACons (pVar 0) (pACons (pC (.int 2)) pANil))) (pC (.int 0)))) (pTup (pACons (pTup (pACons (pTup (pACons (pC (.int 0)) (pACons (pC (.int 1)) pANil))) pANil)) (pACons (pTup (pACons (pTup (pACons (pC (.int 0)) (pACons (pC (.int 1)) pANil))) pANil)) pANil))) (pTup (pACons (pTup pANil) (pACons (pTup pANil) pANil)))))
    (pRet (pTup (pACons (pTup (pACons (pOp oAdd (pTup (pACons (pVar 5) pANil)) (pOp oIx (pVar 6) (pC (.int 0)))) (pACons (pOp oAdd (pTup (pACons (pVar 3) pANil)) (pOp oIx (pVar 6) (pC (.int 1)))) pANil))) (pACons (pOp oSub (pC (.int 0)) (pCl (c0 F_draw) (pACons (pVar 0) (pACons (pC (.int 4)) pANil)))) (pACons (pC (.int 5)) (pACons (pC (.int 1)) (pACons (pVar 1) pANil)))))))))))
instance mo__law_touching : MoS (B__law_touching) := by unfold B__law_touching; infer_instance
def F__law_touching : PF0 := pDef0 2 7 (B__law_touching)
instance moF__law_touching : Mo0 (F__law_touching) := by unfold F__law_touching; infer_instance

def B__law_is_told : PTS :=
    (pSeq (pPar3 3 4 5 (pACons (pOp oIx (pVar 1) (pC (.int 0))) (pACons (pOp oIx (pVar 1) (pC (.int 3))) (pACons (pOp oIx (pVar 1) (pC (.int 4))) pANil))))
    (pSeq (pFor (iRange1 (pC (.int 2))) (gN 6)
    (pSeq (pSet 7 (pCl (c0 F__law_hand) (pACons (pVar 0) (pACons (pVar 3) pANil))))
    (pSeq (pSet 8 (pIf (pTruth (pVar 2)) (pCl (c0 F_page_of) (pPick [1, 0] (pApp 0 2 pANil (pACons (pVar 7) (pACons (pVar 1) pANil))))) (pCl (c0 F_page_of) (pACons (pVar 1) (pACons (pVar 7) pANil)))))
    (pIfS (pNot (pTruth (pCl (c0 F__law_same) (pACons (pVar 8) (pACons (pCl (c0 F__law_page_of) (pACons (pVar 1) (pACons (pVar 7) pANil))) pANil))))) (pRet (pC (.bl false))) pNext))))
    (pSeq (pFor (iAny (pTup (pACons (pOp oIx (pVar 1) (pC (.int 1))) (pACons (pOp oAdd (pOp oIx (pVar 1) (pC (.int 1))) (pCl (c0 F_draw) (pACons (pVar 0) (pACons (pOp oIx (pVar 1) (pC (.int 2))) pANil)))) (pACons (pOp oSub (pOp oAdd (pOp oIx (pVar 1) (pC (.int 1))) (pCl (c0 F_draw) (pACons (pVar 0) (pACons (pC (.int 40)) pANil)))) (pC (.int 20))) pANil))))) (gN 9)
    (pSeq (pPar 10 11 (pCl (c0 F__law_at) (pACons (pVar 3) (pACons (pCl (c0 F__law_no_hand) (pACons (pVar 3) pANil)) (pACons (pVar 9) pANil)))) (pCl (c0 F__law_far) (pACons (pVar 3) (pACons (pVar 9) pANil))))
    (pSeq (pPar 12 13 (pCl (c0 F__law_printed) (pACons (pCl (c0 F__law_minus) (pACons (pVar 10) (pACons (pVar 11) pANil))) (pACons (pVar 4) (pACons (pVar 5) pANil)))) (pCl (c0 F__law_printed) (pACons (pCl (c0 F__law_plus) (pACons (pVar 10) (pACons (pVar 11) pANil))) (pACons (pVar 4) (pACons (pVar 5) pANil)))))
    (pSeq (pIfS (pTB (pOp oGt (pOp oSub (pVar 13) (pVar 12)) (pC (.int 900)))) pCont pNext)
    (pSeq (pSet 8 (pIf (pTruth (pVar 2)) (pCl (c0 F_can_print) (pPick [1, 0] (pApp 0 2 pANil (pACons (pVar 9) (pACons (pVar 1) pANil))))) (pCl (c0 F_can_print) (pACons (pVar 1) (pACons (pVar 9) pANil)))))
    (pSeq (pIfS (pNot (pTruth (pCl (c0 F__law_same) (pACons (pVar 8) (pACons (pTupR (rTwo (pVar 12) (pOp oAdd (pVar 13) (pC (.int 1))))) pANil))))) (pRet (pC (.bl false))) pNext)
    (pIfS (pTB (pOp oNotIn (pCl (c0 F__law_printed) (pACons (pCl (c0 F__law_at) (pACons (pVar 3) (pACons (pCl (c0 F__law_hand) (pACons (pVar 0) (pACons (pVar 3) pANil))) (pACons (pVar 9) pANil)))) (pACons (pVar 4) (pACons (pVar 5) pANil)))) (pVar 8))) (pRet (pC (.bl false))) pNext)))))))
    (pRet (pC (.bl true))))))
instance mo__law_is_told : MoS (B__law_is_told) := by unfold B__law_is_told; infer_instance
def F__law_is_told : PF0 := pDef0 3 14 (B__law_is_told)
instance moF__law_is_told : Mo0 (F__law_is_told) := by unfold F__law_is_told; infer_instance

def B_law : PTS :=
    (pSeq (pFor (iRange1 (pC (.int 6))) (gN 2)
    (pSeq (pSet 3 (pIf (pTB (pOp oLt (pVar 2) (pC (.int 4)))) (pCl (c0 F__law_page) (pACons (pVar 1) (pACons (pC (.int 4)) pANil))) (pCl (c0 F__law_touching) (pACons (pVar 1) (pACons (pCl F__law_pick (pACons (pVar 1) (pACons (pLst (pACons (pC (.str "up")) (pACons (pC (.str "even")) (pACons (pC (.str "down")) pANil)))) pANil))) pANil)))))
    (pIfS (pNot (pTruth (pCl (c0 F__law_is_told) (pACons (pVar 1) (pACons (pVar 3) (pACons (pOp oEq (pVar 2) (pC (.int 1))) pANil)))))) (pRet (pC (.bl false))) pNext)))
    (pRet (pC (.bl true))))
instance mo_law : MoS (B_law) := by unfold B_law; infer_instance

/-! ### the source of draws -/
def bagK : BagKind := ⟨0, fun own cs => ∃ (r g c : Addr) (b0 b1 : Int) (great cells : List Int), own = [r, g, c] ∧ cs = [[.int b0, .int b1, .ref g, .ref c], great.map V.int, cells.map V.int] ∧ 0 < cells.length⟩
local macro_rules | `(tactic| walk_at "w") => `(tactic| conv => whnf)
theorem draw_plain (b0 b1 : Int) (great cells : List Int) (m : Int) (hc : 0 < cells.length) (hm : 0 < m) (hm2 : m < 2 ^ 8000) (Q : PQ)
    (q : ∀ (r b0 b1 : Int) (great : List Int), 0 ≤ r → r < m → Q (.int r) [[.int b0, .int b1, .lst 1, .lst 2], great.map PV.int, cells.map PV.int]) :
    X__law_draw [.lst 0, .int m] [[.int b0, .int b1, .lst 1, .lst 2], great.map PV.int, cells.map PV.int] Q := by
  refine ⟨rfl, ?_⟩
  let I : PEnv → Store → Prop := fun ρ S => ∃ (b0 b1 : Int) (great : List Int), ρ = [some (.lst 0), some (.int m), none, none, none] ∧ S = [[.int b0, .int b1, .lst 1, .lst 2], great.map PV.int, cells.map PV.int]
  refine s_seq I ⟨b0, b1 + 1, great, rfl, rfl⟩ ?_
  rintro _ _ ⟨b0, b1, great, rfl, rfl⟩
  refine s_seq I ?_ ?_
  · have skip : I [some (.lst 0), some (.int m), none, none, none] [[.int b0, .int b1, .lst 1, .lst 2], great.map PV.int, cells.map PV.int] := ⟨b0, b1, great, rfl, rfl⟩
    walk_at "w"
    refine br (fun h => ?_) (fun h => skip)
    walk_at "w"
    refine br (fun h3 => ?_) (fun h => skip)
    have h3 : 0 < (great.map PV.int).length := by simpa using of_decide_eq_true h3
    have e1 : ∃ z gs, great.map PV.int = List.map PV.int gs ++ [PV.int z] := by
      rcases List.eq_nil_or_concat great with rfl | ⟨gs, z, rfl⟩
      · simp at h3
      · exact ⟨z, gs, by simp⟩
    obtain ⟨z, gs, e1⟩ := e1
    rw [e1]
    refine onO_of (o := (List.map PV.int gs ++ [PV.int z]).getLast?) (x := .int z) (by simp) ?_
    have e2 : (List.map PV.int gs ++ [PV.int z]).dropLast = List.map PV.int gs := by simp
    rw [e2]
    exact ⟨z, b1, gs, rfl, rfl⟩
  rintro _ _ ⟨b0, b1, great, rfl, rfl⟩
  refine s_seq I ?_ ?_
  · walk_at "w"
    refine br (fun h => ?_) (fun h => ⟨b0, b1, great, rfl, rfl⟩)
    walk_at "w"
    refine ⟨by omega, ?_⟩
    walk_at "w"
    refine ⟨divOk_of hm hm2, ?_⟩
    exact q _ _ _ _ (fmod_in _ hm).1 (fmod_in _ hm).2
  rintro _ _ ⟨b0, b1, great, rfl, rfl⟩
  walk_at "w"
  have hl : (0 : Int) < (cells.map PV.int).length := by simpa using hc
  refine ⟨by omega, ?_⟩
  obtain ⟨c, ec⟩ := at_ints (cells := cells) (fmod_in b1 hl).1 (by have := (fmod_in b1 hl).2; simpa using this)
  refine onO_of ec ?_
  walk_at "w"
  refine ⟨mulOk_r (by decide) (by decide), ?_⟩
  walk_at "w"
  refine ⟨mulOk_r (by decide) (by decide), ?_⟩
  walk_at "w"
  refine ⟨(show (2147483647 : Int) ≠ 0 by decide), ?_⟩
  have h5 := fmod_in (c * 48271 + b1 * 69621 + 1) (show (0 : Int) < 2147483647 by decide)
  walk_at "w"
  refine ⟨mulOk_r (by omega) (by omega), ?_⟩
  walk_at "w"
  refine ⟨mulOk_r (by decide) (by decide), ?_⟩
  walk_at "w"
  refine ⟨mulOk_r (by decide) (by decide), ?_⟩
  walk_at "w"
  refine ⟨(show (2147483629 : Int) ≠ 0 by decide), ?_⟩
  walk_at "w"
  refine ⟨divOk_of (by decide) (by decide +kernel), ?_⟩
  walk_at "w"
  refine ⟨by omega, ?_⟩
  exact q _ _ _ _ (fmod_in _ hm).1 (fmod_in _ hm).2
def madeB (r : PV) (S : Store) : Prop := ∃ (n g c : Nat) (great cells : List Int), r = .lst n ∧ S[n]? = some [.int 0, .int 0, .lst g, .lst c] ∧ S[g]? = some (great.map PV.int) ∧ S[c]? = some (cells.map PV.int) ∧ n ≠ g ∧ n ≠ c ∧ g ≠ c ∧ 0 < cells.length
theorem bag_plain (ns : List Int) (Q : PQ) (hl : ns.length ≤ 63) (q : ∀ r S', madeB r S' → Q r S') : X__law_bag [.rol (ns.map PV.int)] [] Q := by
  refine ⟨rfl, ?_⟩
  walk_at "w"
  refine pLcL_pure (S := []) (fun x => match x with | .int i => some (.int (i.natAbs : Int)) | _ => none) (fun acc => trivial) _ [] ?_ ?_ ?_
  · intro x hx acc Qk hq
    obtain ⟨i, _, rfl⟩ := List.mem_map.mp hx
    exact hq
  · simp; omega
  rw [fm_ints _ (fun i => .int (i.natAbs : Int)) (fun _ => rfl)]
  let cells : List Int := (ns.map fun i => (i.natAbs : Int)) ++ [7]
  have ec : [] ++ (ns.map fun i => PV.int (i.natAbs : Int)) ++ [PV.int 7] = cells.map PV.int := by simp [cells]
  have hlen : cells.length ≤ 64 := by simp [cells]; omega
  have hpos : 0 < cells.length := by simp [cells]
  generalize hys : (ns.map fun i => PV.int (i.natAbs : Int)) = ys at *
  have hyl : ys.length ≤ 63 := by rw [← hys]; simpa using hl
  walk_at "w"
  refine ⟨by simp, ?_⟩
  walk_at "w"
  refine ⟨by simp; omega, ?_⟩
  rw [ec]
  have fin : ∀ (S : Store) (gr : List Int) (g : Nat) (z : Option PV), S[2]? = some (cells.map PV.int) → S[g]? = some (gr.map PV.int) →
      (pRet (pLst (pACons (pC (.int 0)) (pACons (pC (.int 0)) (pACons (pVar 3) (pACons (pLc (iAny (pVar 1)) (gN 2) pYes (pOp oMod (pCl oInt (pACons (pVar 2) pANil)) (pC (.int 2147483647))) [2]) pANil))))) noX { nx := fun _ S' => Q .non S', rt := Q } [some (.rol (ns.map PV.int)), some (.lst 2), z, some (.lst g)] S) := by
    intro S gr g z s2 s3
    have l2 := (List.getElem?_eq_some_iff.mp s2).1
    have l3 := (List.getElem?_eq_some_iff.mp s3).1
    have old : ∀ (n : Nat) x (T : List (List PV)), n < S.length → S[n]? = some x → (S ++ T)[n]? = some x := fun n x T h e => by rw [List.getElem?_append_left h]; exact e
    walk_at "w"
    refine onO_of s2 ?_
    refine pLcL_pure (S := S) (fun x => match x with | .int i => some (.int (i.fmod 2147483647)) | _ => none) (fun acc => old 2 _ _ l2 s2) _ [] ?_ ?_ ?_
    · intro x hx acc Qk hq
      obtain ⟨i, _, rfl⟩ := List.mem_map.mp hx
      exact ⟨by decide, hq⟩
    · simp; omega
    rw [fm_ints _ (fun (i : Int) => .int (i.fmod 2147483647)) (fun _ => rfl)]
    refine ⟨by simp, ?_⟩
    refine q _ _ ⟨(S ++ [[] ++ cells.map fun (i : Int) => PV.int (i.fmod 2147483647)]).length, g, S.length, gr, cells.map fun (i : Int) => i.fmod 2147483647, rfl, by simp, ?_, ?_, ?_, ?_, ?_, by simpa using hpos⟩
    · rw [List.append_assoc]; exact old g _ _ l3 s3
    · simp
    · simp; omega
    · simp
    · omega
  refine ⟨by simp, ?_⟩
  dsimp only
  refine s_seq (fun ρ S => ∃ (gr : List Int) (g : Nat) (z : Option PV), ρ = [some (.rol (ns.map PV.int)), some (.lst 2), z, some (.lst g)] ∧ S[2]? = some (cells.map PV.int) ∧ S[g]? = some (gr.map PV.int)) ?_ ?_
  · walk_at "w"
    obtain ⟨c, e0⟩ := at_ints (cells := cells) (i := 0) (by decide) (by omega)
    refine onO_of e0 ?_
    walk_at "w"
    refine ⟨(show (2 : Int) ≠ 0 by decide), ?_⟩
    walk_at "w"
    refine br (fun h => ?_) (fun h => ⟨[], 3, _, rfl, rfl, rfl⟩)
    let f : PV → Option PV := fun x => match x with | .int i => (if 10 ^ 18 ≤ i then some (.int (i.fdiv 2)) else none) | _ => none
    have hg : ∀ xs : List Int, ∃ gr : List Int, (xs.map PV.int).filterMap f = gr.map PV.int := by
      intro xs
      induction xs with
      | nil => exact ⟨[], rfl⟩
      | cons x xs ih =>
        obtain ⟨gr, e⟩ := ih
        by_cases hx : (10 : Int) ^ 18 ≤ x
        · exact ⟨x.fdiv 2 :: gr, by rw [List.map_cons, List.filterMap_cons_some (b := .int (x.fdiv 2)) (by show (if _ then _ else _) = _; rw [if_pos hx]), e]; rfl⟩
        · exact ⟨gr, by rw [List.map_cons, List.filterMap_cons_none (by show (if _ then _ else _) = _; rw [if_neg hx]), e]⟩
    obtain ⟨gr, eg⟩ := hg cells
    walk_at "w"
    refine pLcL_pure (S := [[] ++ ys, [.int 7], cells.map PV.int, []]) f (fun acc => rfl) _ [] ?_ ?_ ?_
    · intro x hx acc Qk hq
      obtain ⟨i, _, rfl⟩ := List.mem_map.mp hx
      have hq : Qk (if 10 ^ 18 ≤ i then some (.int (i.fdiv 2)) else none) _ := hq
      refine ⟨⟨by decide, by decide, by decide⟩, ?_⟩
      walk_at "w"
      refine br (fun h => ?_) (fun h => ?_)
      · rw [if_pos (show (10 : Int) ^ 18 ≤ i from of_decide_eq_true h)] at hq
        exact ⟨divOk_of (by decide) (by decide +kernel), hq⟩
      · rw [if_neg (show ¬ (10 : Int) ^ 18 ≤ i from of_decide_eq_false h)] at hq
        exact hq
    · simp; omega
    rw [eg]
    refine ⟨gr.reverse, 4, _, rfl, rfl, ?_⟩
    rw [List.map_reverse]; rfl
  · rintro ρ S ⟨gr, g, z, rfl, s2, s3⟩
    exact fin S gr g z s2 s3
theorem same_any (Fr : PF0) [Mo0 Fr] (n : Nat) (hF : ∀ m, n = m + 1 → ∀ xs Q, F_same true m xs Q → Fr xs Q) : ∀ xs Q, F_same true n xs Q → X__law_same Fr xs Q := by
  intro xs Q q
  unfold F_same at q
  split at q
  case h_2 => exact q.elim
  rename_i a b
  obtain ⟨rfl, hd, q⟩ := q
  refine ⟨rfl, ?_⟩
  cases a with
  | non => walk_at "w"; exact ⟨rfl, q⟩
  | bl b =>
    walk_at "w"
    rw [decide_eq_true rfl]
    exact ⟨rfl, q⟩
  | int i =>
    walk_at "w"
    rw [decide_eq_true rfl]
    exact ⟨rfl, q⟩
  | str x =>
    walk_at "w"
    rw [decide_eq_true rfl]
    exact ⟨rfl, q⟩
  | tup xs =>
    cases n with
    | zero => simp [dat] at hd
    | succ d =>
    have hF := hF d rfl
    have hd : dat true (d + 1) (.tup xs) = true := hd
    simp only [dat, Bool.and_eq_true, decide_eq_true_eq] at hd
    walk_at "w"
    refine brF (by simp) ?_
    walk_at "w"
    refine ⟨by omega, by omega, ?_⟩
    have e : ((xs.length : Int)).toNat = xs.length := Int.toNat_natCast _
    rw [e]
    refine pForL_range (fun j ρ S => ∃ z, ρ = [some (.tup xs), some (.tup xs), z] ∧ S = []) ⟨_, rfl, rfl⟩ ?_ ?_
    · rintro j ρ S hj ⟨z, rfl, rfl⟩
      have ex : atI xs (j : Int) = some xs[j] := by rw [atI_get? (Int.natCast_nonneg j)]; simp [hj]
      have dx : dat true d xs[j] = true := dats_mem.mp hd.2 _ (List.getElem_mem hj)
      refine onO_of ex ?_
      refine onO_of ex ?_
      refine ⟨by simp [belows, dat_below dx], hF _ _ ⟨rfl, dx, ?_⟩⟩
      exact ⟨_, rfl, rfl⟩
    · rintro ρ S ⟨z, rfl, rfl⟩
      exact ⟨rfl, q⟩
  | lst _ => cases n <;> simp [dat] at hd
  | rol _ => cases n <;> simp [dat] at hd
  | bag => cases n <;> simp [dat] at hd
end Lawk11
namespace Lawk11
open PySem PySem.Spec PyProof.Rows L2 L2.P3
local macro_rules | `(tactic| walk_at "w") => `(tactic| conv => whnf)
structure Txt (K : PySem.W.Frag) (mg : Str → Option Value) where
  f_frac : Addr
  d_frac : FuncData
  F_frac : Fun K "frac" "frac" s_frac f_frac d_frac
  m_frac : mg "frac" = some (.ref f_frac)
  b_frac : Binds K d_frac P_frac []
  f_whole : Addr
  d_whole : FuncData
  F_whole : Fun K "whole" "whole" s_whole f_whole d_whole
  m_whole : mg "whole" = some (.ref f_whole)
  b_whole : Binds K d_whole P_whole []
  f_plus : Addr
  d_plus : FuncData
  F_plus : Fun K "plus" "plus" s_plus f_plus d_plus
  m_plus : mg "plus" = some (.ref f_plus)
  b_plus : Binds K d_plus P_plus []
  f_minus : Addr
  d_minus : FuncData
  F_minus : Fun K "minus" "minus" s_minus f_minus d_minus
  m_minus : mg "minus" = some (.ref f_minus)
  b_minus : Binds K d_minus P_minus []
  f_times : Addr
  d_times : FuncData
  F_times : Fun K "times" "times" s_times f_times d_times
  m_times : mg "times" = some (.ref f_times)
  b_times : Binds K d_times P_times []
  f_floor_of : Addr
  d_floor_of : FuncData
  F_floor_of : Fun K "floor_of" "floor_of" s_floor_of f_floor_of d_floor_of
  m_floor_of : mg "floor_of" = some (.ref f_floor_of)
  b_floor_of : Binds K d_floor_of P_floor_of []
  f_total_of : Addr
  d_total_of : FuncData
  F_total_of : Fun K "total_of" "total_of" s_total_of f_total_of d_total_of
  m_total_of : mg "total_of" = some (.ref f_total_of)
  b_total_of : Binds K d_total_of P_total_of []
  f_product_sum : Addr
  d_product_sum : FuncData
  F_product_sum : Fun K "product_sum" "product_sum" s_product_sum f_product_sum d_product_sum
  m_product_sum : mg "product_sum" = some (.ref f_product_sum)
  b_product_sum : Binds K d_product_sum P_product_sum []
  f_tens : Addr
  d_tens : FuncData
  F_tens : Fun K "tens" "tens" s_tens f_tens d_tens
  m_tens : mg "tens" = some (.ref f_tens)
  b_tens : Binds K d_tens P_tens []
  f_choose : Addr
  d_choose : FuncData
  F_choose : Fun K "choose" "choose" s_choose f_choose d_choose
  m_choose : mg "choose" = some (.ref f_choose)
  b_choose : Binds K d_choose P_choose []
  f_printed : Addr
  d_printed : FuncData
  F_printed : Fun K "printed" "printed" s_printed f_printed d_printed
  m_printed : mg "printed" = some (.ref f_printed)
  b_printed : Binds K d_printed P_printed []
  f_choices_at : Addr
  d_choices_at : FuncData
  F_choices_at : Fun K "choices_at" "choices_at" s_choices_at f_choices_at d_choices_at
  m_choices_at : mg "choices_at" = some (.ref f_choices_at)
  b_choices_at : Binds K d_choices_at P_choices_at []
  f_slips_summed : Addr
  d_slips_summed : FuncData
  F_slips_summed : Fun K "slips_summed" "slips_summed" s_slips_summed f_slips_summed d_slips_summed
  m_slips_summed : mg "slips_summed" = some (.ref f_slips_summed)
  b_slips_summed : Binds K d_slips_summed P_slips_summed []
  f_plain_line : Addr
  d_plain_line : FuncData
  F_plain_line : Fun K "plain_line" "plain_line" s_plain_line f_plain_line d_plain_line
  m_plain_line : mg "plain_line" = some (.ref f_plain_line)
  b_plain_line : Binds K d_plain_line P_plain_line []
  f_columns_at : Addr
  d_columns_at : FuncData
  F_columns_at : Fun K "columns_at" "columns_at" s_columns_at f_columns_at d_columns_at
  m_columns_at : mg "columns_at" = some (.ref f_columns_at)
  b_columns_at : Binds K d_columns_at P_columns_at []
  f_turned_on : Addr
  d_turned_on : FuncData
  F_turned_on : Fun K "turned_on" "turned_on" s_turned_on f_turned_on d_turned_on
  m_turned_on : mg "turned_on" = some (.ref f_turned_on)
  b_turned_on : Binds K d_turned_on P_turned_on []
  f_rows_turned : Addr
  d_rows_turned : FuncData
  F_rows_turned : Fun K "rows_turned" "rows_turned" s_rows_turned f_rows_turned d_rows_turned
  m_rows_turned : mg "rows_turned" = some (.ref f_rows_turned)
  b_rows_turned : Binds K d_rows_turned P_rows_turned []
  f_reach_at : Addr
  d_reach_at : FuncData
  F_reach_at : Fun K "reach_at" "reach_at" s_reach_at f_reach_at d_reach_at
  m_reach_at : mg "reach_at" = some (.ref f_reach_at)
  b_reach_at : Binds K d_reach_at P_reach_at []
  f_stretch : Addr
  d_stretch : FuncData
  F_stretch : Fun K "stretch" "stretch" s_stretch f_stretch d_stretch
  m_stretch : mg "stretch" = some (.ref f_stretch)
  b_stretch : Binds K d_stretch P_stretch []
  f_page_of : Addr
  d_page_of : FuncData
  F_page_of : Fun K "page_of" "page_of" s_page_of f_page_of d_page_of
  m_page_of : mg "page_of" = some (.ref f_page_of)
  b_page_of : Binds K d_page_of P_page_of []
  f_print_ends : Addr
  d_print_ends : FuncData
  F_print_ends : Fun K "print_ends" "print_ends" s_print_ends f_print_ends d_print_ends
  m_print_ends : mg "print_ends" = some (.ref f_print_ends)
  b_print_ends : Binds K d_print_ends P_print_ends []
  f_can_print : Addr
  d_can_print : FuncData
  F_can_print : Fun K "can_print" "can_print" s_can_print f_can_print d_can_print
  m_can_print : mg "can_print" = some (.ref f_can_print)
  b_can_print : Binds K d_can_print P_can_print []
  f__law_bag : Addr
  d__law_bag : FuncData
  F__law_bag : Fun K "_law_bag" "_law_bag" s__law_bag f__law_bag d__law_bag
  m__law_bag : mg "_law_bag" = some (.ref f__law_bag)
  b__law_bag : Binds K d__law_bag P__law_bag []
  f__law_draw : Addr
  d__law_draw : FuncData
  F__law_draw : Fun K "_law_draw" "_law_draw" s__law_draw f__law_draw d__law_draw
  m__law_draw : mg "_law_draw" = some (.ref f__law_draw)
  b__law_draw : Binds K d__law_draw P__law_draw []
  f__law_pick : Addr
  d__law_pick : FuncData
  F__law_pick : Fun K "_law_pick" "_law_pick" s__law_pick f__law_pick d__law_pick
  m__law_pick : mg "_law_pick" = some (.ref f__law_pick)
  b__law_pick : Binds K d__law_pick P__law_pick []
  f__law_same : Addr
  d__law_same : FuncData
  F__law_same : Fun K "_law_same" "_law_same" s__law_same f__law_same d__law_same
  m__law_same : mg "_law_same" = some (.ref f__law_same)
  b__law_same : Binds K d__law_same P__law_same []
  f__law_gcd : Addr
  d__law_gcd : FuncData
  F__law_gcd : Fun K "_law_gcd" "_law_gcd" s__law_gcd f__law_gcd d__law_gcd
  m__law_gcd : mg "_law_gcd" = some (.ref f__law_gcd)
  b__law_gcd : Binds K d__law_gcd P__law_gcd []
  f__law_fr : Addr
  d__law_fr : FuncData
  F__law_fr : Fun K "_law_fr" "_law_fr" s__law_fr f__law_fr d__law_fr
  m__law_fr : mg "_law_fr" = some (.ref f__law_fr)
  b__law_fr : Binds K d__law_fr P__law_fr []
  f__law_plus : Addr
  d__law_plus : FuncData
  F__law_plus : Fun K "_law_plus" "_law_plus" s__law_plus f__law_plus d__law_plus
  m__law_plus : mg "_law_plus" = some (.ref f__law_plus)
  b__law_plus : Binds K d__law_plus P__law_plus []
  f__law_minus : Addr
  d__law_minus : FuncData
  F__law_minus : Fun K "_law_minus" "_law_minus" s__law_minus f__law_minus d__law_minus
  m__law_minus : mg "_law_minus" = some (.ref f__law_minus)
  b__law_minus : Binds K d__law_minus P__law_minus []
  f__law_times : Addr
  d__law_times : FuncData
  F__law_times : Fun K "_law_times" "_law_times" s__law_times f__law_times d__law_times
  m__law_times : mg "_law_times" = some (.ref f__law_times)
  b__law_times : Binds K d__law_times P__law_times []
  f__law_below : Addr
  d__law_below : FuncData
  F__law_below : Fun K "_law_below" "_law_below" s__law_below f__law_below d__law_below
  m__law_below : mg "_law_below" = some (.ref f__law_below)
  b__law_below : Binds K d__law_below P__law_below []
  f__law_ten : Addr
  d__law_ten : FuncData
  F__law_ten : Fun K "_law_ten" "_law_ten" s__law_ten f__law_ten d__law_ten
  m__law_ten : mg "_law_ten" = some (.ref f__law_ten)
  b__law_ten : Binds K d__law_ten P__law_ten []
  f__law_printed : Addr
  d__law_printed : FuncData
  F__law_printed : Fun K "_law_printed" "_law_printed" s__law_printed f__law_printed d__law_printed
  m__law_printed : mg "_law_printed" = some (.ref f__law_printed)
  b__law_printed : Binds K d__law_printed P__law_printed []
  f__law_stripe : Addr
  d__law_stripe : FuncData
  F__law_stripe : Fun K "_law_stripe" "_law_stripe" s__law_stripe f__law_stripe d__law_stripe
  m__law_stripe : mg "_law_stripe" = some (.ref f__law_stripe)
  b__law_stripe : Binds K d__law_stripe P__law_stripe []
  f__law_choose : Addr
  d__law_choose : FuncData
  F__law_choose : Fun K "_law_choose" "_law_choose" s__law_choose f__law_choose d__law_choose
  m__law_choose : mg "_law_choose" = some (.ref f__law_choose)
  b__law_choose : Binds K d__law_choose P__law_choose []
  f__law_at : Addr
  d__law_at : FuncData
  F__law_at : Fun K "_law_at" "_law_at" s__law_at f__law_at d__law_at
  m__law_at : mg "_law_at" = some (.ref f__law_at)
  b__law_at : Binds K d__law_at P__law_at []
  f__law_no_hand : Addr
  d__law_no_hand : FuncData
  F__law_no_hand : Fun K "_law_no_hand" "_law_no_hand" s__law_no_hand f__law_no_hand d__law_no_hand
  m__law_no_hand : mg "_law_no_hand" = some (.ref f__law_no_hand)
  b__law_no_hand : Binds K d__law_no_hand P__law_no_hand []
  f__law_far : Addr
  d__law_far : FuncData
  F__law_far : Fun K "_law_far" "_law_far" s__law_far f__law_far d__law_far
  m__law_far : mg "_law_far" = some (.ref f__law_far)
  b__law_far : Binds K d__law_far P__law_far []
  f__law_start : Addr
  d__law_start : FuncData
  F__law_start : Fun K "_law_start" "_law_start" s__law_start f__law_start d__law_start
  m__law_start : mg "_law_start" = some (.ref f__law_start)
  b__law_start : Binds K d__law_start P__law_start []
  f__law_hand : Addr
  d__law_hand : FuncData
  F__law_hand : Fun K "_law_hand" "_law_hand" s__law_hand f__law_hand d__law_hand
  m__law_hand : mg "_law_hand" = some (.ref f__law_hand)
  b__law_hand : Binds K d__law_hand P__law_hand []
  f__law_page : Addr
  d__law_page : FuncData
  F__law_page : Fun K "_law_page" "_law_page" s__law_page f__law_page d__law_page
  m__law_page : mg "_law_page" = some (.ref f__law_page)
  b__law_page : Binds K d__law_page P__law_page []
  f__law_page_of : Addr
  d__law_page_of : FuncData
  F__law_page_of : Fun K "_law_page_of" "_law_page_of" s__law_page_of f__law_page_of d__law_page_of
  m__law_page_of : mg "_law_page_of" = some (.ref f__law_page_of)
  b__law_page_of : Binds K d__law_page_of P__law_page_of []
  f__law_touching : Addr
  d__law_touching : FuncData
  F__law_touching : Fun K "_law_touching" "_law_touching" s__law_touching f__law_touching d__law_touching
  m__law_touching : mg "_law_touching" = some (.ref f__law_touching)
  b__law_touching : Binds K d__law_touching P__law_touching []
  f__law_is_told : Addr
  d__law_is_told : FuncData
  F__law_is_told : Fun K "_law_is_told" "_law_is_told" s__law_is_told f__law_is_told d__law_is_told
  m__law_is_told : mg "_law_is_told" = some (.ref f__law_is_told)
  b__law_is_told : Binds K d__law_is_told P__law_is_told []
  f_law : Addr
  d_law : FuncData
  F_law : Fun K "law" "law" s_law f_law d_law
  m_law : mg "law" = some (.ref f_law)
  kb_page_of_0 : KB K d_page_of P_page_of 0 ["hand", "page"] [1, 0]
  kb_can_print_0 : KB K d_can_print P_can_print 0 ["n", "page"] [1, 0]
  n_abs : mg "abs" = none
  n_bool : mg "bool" = none
  n_int : mg "int" = none
  n_isinstance : mg "isinstance" = none
  n_len : mg "len" = none
  n_range : mg "range" = none
  n_str : mg "str" = none
  n_tuple : mg "tuple" = none
  n_zip : mg "zip" = none
  m_gcd : mg "gcd" = some (.builtin "math.gcd")
section
variable {P : Program} {w : World} {K : PySem.W.Frag} {mg : Str → Option Value} {base : Heap} {bk : BagKind}
theorem ok_frac (T : Txt K mg) : FnOk P w K mg base CX0 1 T.f_frac T.d_frac P_frac (sp0 bagK K F_frac) := by
  refine ok0 (N := N_frac) T.F_frac sc_frac rfl fun cdv A outer s H E hr => ?_
  exact (qs_cons (q_set (i := 2) sc_frac.nd rfl (Or.inl rfl) (q_callBfun cr_gcd oGcdP (by rfl) T.m_gcd (q_acons (q_var 0) (q_acons (q_var 1) q_anil))))
    (qs_cons (q_ifS (qt_cmp op_lt oLtP (q_var 1) q_int (nomark _)) (qs_one (q_set (i := 2) sc_frac.nd rfl (Or.inl rfl) (q_un un_neg oNegP (q_var 2)))) qs_nil)
    (qs_one (q_ret (q_tup (q_acons (q_op op_fdivX oFdivP (q_var 0) (q_var 2)) (q_acons (q_op op_fdivX oFdivP (q_var 1) (q_var 2)) q_anil)))))))
theorem ok_whole (T : Txt K mg) : FnOk P w K mg base CX0 1 T.f_whole T.d_whole P_whole (sp0 bagK K F_whole) := by
  refine ok0 (N := N_whole) T.F_whole sc_whole rfl fun cdv A outer s H E hr => ?_
  exact (qs_one (q_ret (q_tup (q_acons (q_var 0) (q_acons q_int q_anil)))))
theorem ok_plus (T : Txt K mg) : FnOk P w K mg base CX0 2 T.f_plus T.d_plus P_plus (sp0 bagK K F_plus) := by
  have G_frac := ok_frac (P := P) (w := w) (base := base) T
  refine ok0 (N := N_plus) T.F_plus sc_plus rfl fun cdv A outer s H E hr => ?_
  exact (qs_one (q_ret (q_call G_frac (prom0) (hr.mono (by decide)) (by rfl) T.m_frac T.F_frac.kp T.b_frac (q_acons (q_op op_addX oAddP (q_op op_mulA oMulP (q_ix (q_var 0) q_int (fun _ _ => rfl)) (q_ix (q_var 1) q_int (fun _ _ => rfl))) (q_op op_mulA oMulP (q_ix (q_var 1) q_int (fun _ _ => rfl)) (q_ix (q_var 0) q_int (fun _ _ => rfl)))) (q_acons (q_op op_mulA oMulP (q_ix (q_var 0) q_int (fun _ _ => rfl)) (q_ix (q_var 1) q_int (fun _ _ => rfl))) q_anil)))))
theorem ok_minus (T : Txt K mg) : FnOk P w K mg base CX0 2 T.f_minus T.d_minus P_minus (sp0 bagK K F_minus) := by
  have G_frac := ok_frac (P := P) (w := w) (base := base) T
  refine ok0 (N := N_minus) T.F_minus sc_minus rfl fun cdv A outer s H E hr => ?_
  exact (qs_one (q_ret (q_call G_frac (prom0) (hr.mono (by decide)) (by rfl) T.m_frac T.F_frac.kp T.b_frac (q_acons (q_op op_sub oSubP (q_op op_mulA oMulP (q_ix (q_var 0) q_int (fun _ _ => rfl)) (q_ix (q_var 1) q_int (fun _ _ => rfl))) (q_op op_mulA oMulP (q_ix (q_var 1) q_int (fun _ _ => rfl)) (q_ix (q_var 0) q_int (fun _ _ => rfl)))) (q_acons (q_op op_mulA oMulP (q_ix (q_var 0) q_int (fun _ _ => rfl)) (q_ix (q_var 1) q_int (fun _ _ => rfl))) q_anil)))))
theorem ok_times (T : Txt K mg) : FnOk P w K mg base CX0 2 T.f_times T.d_times P_times (sp0 bagK K F_times) := by
  have G_frac := ok_frac (P := P) (w := w) (base := base) T
  refine ok0 (N := N_times) T.F_times sc_times rfl fun cdv A outer s H E hr => ?_
  exact (qs_one (q_ret (q_call G_frac (prom0) (hr.mono (by decide)) (by rfl) T.m_frac T.F_frac.kp T.b_frac (q_acons (q_op op_mulA oMulP (q_ix (q_var 0) q_int (fun _ _ => rfl)) (q_ix (q_var 1) q_int (fun _ _ => rfl))) (q_acons (q_op op_mulA oMulP (q_ix (q_var 0) q_int (fun _ _ => rfl)) (q_ix (q_var 1) q_int (fun _ _ => rfl))) q_anil)))))
theorem ok_floor_of (T : Txt K mg) : FnOk P w K mg base CX0 1 T.f_floor_of T.d_floor_of P_floor_of (sp0 bagK K F_floor_of) := by
  refine ok0 (N := N_floor_of) T.F_floor_of sc_floor_of rfl fun cdv A outer s H E hr => ?_
  exact (qs_one (q_ret (q_op op_fdivX oFdivP (q_ix (q_var 0) q_int (fun _ _ => rfl)) (q_ix (q_var 0) q_int (fun _ _ => rfl)))))
theorem ok_total_of (T : Txt K mg) : FnOk P w K mg base CX0 2 T.f_total_of T.d_total_of P_total_of (spS bagK K F_total_of) := by
  unfold F_total_of
  have G_frac := ok_frac (P := P) (w := w) (base := base) T
  refine okC (N := N_total_of) T.F_total_of sc_total_of rfl fun cdv A outer s H E hr => ?_
  exact (qs_cons (q_asg (q_tup (q_acons q_int (q_acons q_int q_anil))) (g_tup rfl (g_cons (g_name (i := 1) sc_total_of.nd rfl (Or.inl rfl)) (g_cons (g_name (i := 2) sc_total_of.nd rfl (Or.inl rfl)) g_nil))))
    (qs_cons (q_for PassesOwn.never rfl (qi_any (q_var 0)) (g_name (i := 3) sc_total_of.nd rfl (Or.inl rfl))
    (qs_cons (q_par (i := 1) (j := 2) rfl sc_total_of.nd rfl rfl (by decide) rfl rfl (q_op op_addX oAddP (q_op op_mulA oMulP (q_var 1) (q_ix (q_var 3) q_int (fun _ _ => rfl))) (q_op op_mulA oMulP (q_ix (q_var 3) q_int (fun _ _ => rfl)) (q_var 2))) (q_op op_mulA oMulP (q_var 2) (q_ix (q_var 3) q_int (fun _ _ => rfl))) (by rfl))
    (qs_one (q_ifS (qt_cmp op_gt oGtP (q_var 2) (q_op op_shl oShlP q_int q_int) (nomark _)) (qs_one (q_asg (q_call G_frac (prom0) (hr.mono (by decide)) (by rfl) T.m_frac T.F_frac.kp T.b_frac (q_acons (q_var 1) (q_acons (q_var 2) q_anil))) (g_tup rfl (g_cons (g_name (i := 1) sc_total_of.nd rfl (Or.inl rfl)) (g_cons (g_name (i := 2) sc_total_of.nd rfl (Or.inl rfl)) g_nil))))) qs_nil))))
    (qs_one (q_ret (q_call G_frac (prom0) (hr.mono (by decide)) (by rfl) T.m_frac T.F_frac.kp T.b_frac (q_acons (q_var 1) (q_acons (q_var 2) q_anil)))))))
theorem ok_product_sum (T : Txt K mg) : FnOk P w K mg base CX0 3 T.f_product_sum T.d_product_sum P_product_sum (spS bagK K F_product_sum) := by
  unfold F_product_sum
  have G_total_of := ok_total_of (P := P) (w := w) (base := base) T
  have G_times := ok_times (P := P) (w := w) (base := base) T
  refine okC (N := N_product_sum) T.F_product_sum sc_product_sum rfl fun cdv A outer s H E hr => ?_
  exact (qs_one (q_ret (q_call G_total_of (promS) (hr.mono (by decide)) (by rfl) T.m_total_of T.F_total_of.kp T.b_total_of (q_acons (q_lc rfl sc_product_sum.nd (qi_range1 (by rfl) T.n_range (q_callB call_len oLenP (by rfl) T.n_len PySem.boot_len (q_acons (q_var 0) q_anil))) (blkOk_by (own := [("place", 2)]) (N := N_product_sum) (sc := defScope s_product_sum) (by decide +kernel)) rfl (fun _ _ _ _ _ => (gw_name (i := 2) (by decide) sc_product_sum.nd rfl (Or.inl rfl))) (fun _ _ _ _ _ => qts_nil) (fun _ _ _ _ _ => (q_call G_times (prom0) (hr.mono (by decide)) (by rfl) T.m_times T.F_times.kp T.b_times (q_acons (q_ix (q_var 0) (q_var 2) (fun _ _ => rfl)) (q_acons (q_ix (q_var 1) (q_var 2) (fun _ _ => rfl)) q_anil))))) q_anil))))
theorem ok_tens (T : Txt K mg) : FnOk P w K mg base CX0 1 T.f_tens T.d_tens P_tens (sp0 bagK K F_tens) := by
  refine ok0 (N := N_tens) T.F_tens sc_tens rfl fun cdv A outer s H E hr => ?_
  exact (qs_cons (q_set (i := 1) sc_tens.nd rfl (Or.inl rfl) q_int)
    (qs_cons (q_for PassesOwn.never rfl (qi_range1 (by rfl) T.n_range (q_callB call_abs oAbsP (by rfl) T.n_abs bb_abs (q_acons (q_var 0) q_anil))) (g_name (i := 2) sc_tens.nd rfl (Or.inl rfl))
    (qs_one (q_aug (i := 1) sc_tens.nd rfl (Or.inl rfl) q_int iop_mulX oMulIP)))
    (qs_one (q_ret (q_if (qt_cmp op_ge oGeP (q_var 0) q_int (nomark _)) (q_tup (q_acons (q_var 1) (q_acons q_int q_anil))) (q_tup (q_acons q_int (q_acons (q_var 1) q_anil))))))))
theorem ok_choose (T : Txt K mg) : FnOk P w K mg base CX0 1 T.f_choose T.d_choose P_choose (sp0 bagK K F_choose) := by
  refine ok0 (N := N_choose) T.F_choose sc_choose rfl fun cdv A outer s H E hr => ?_
  exact (qs_cons (q_set (i := 2) sc_choose.nd rfl (Or.inl rfl) q_int)
    (qs_cons (q_for PassesOwn.never rfl (qi_range1 (by rfl) T.n_range (q_var 1)) (g_name (i := 3) sc_choose.nd rfl (Or.inl rfl))
    (qs_one (q_set (i := 2) sc_choose.nd rfl (Or.inl rfl) (q_op op_fdivX oFdivP (q_op op_mulA oMulP (q_var 2) (q_op op_sub oSubP (q_var 0) (q_var 3))) (q_op op_addX oAddP (q_var 3) q_int)))))
    (qs_one (q_ret (q_var 2)))))
theorem ok_printed (T : Txt K mg) : FnOk P w K mg base CX0 3 T.f_printed T.d_printed P_printed (sp0 bagK K F_printed) := by
  have G_times := ok_times (P := P) (w := w) (base := base) T
  have G_tens := ok_tens (P := P) (w := w) (base := base) T
  have G_floor_of := ok_floor_of (P := P) (w := w) (base := base) T
  have G_plus := ok_plus (P := P) (w := w) (base := base) T
  refine ok0 (N := N_printed) T.F_printed sc_printed rfl fun cdv A outer s H E hr => ?_
  exact (qs_cons (q_set (i := 3) sc_printed.nd rfl (Or.inl rfl) (q_call G_times (prom0) (hr.mono (by decide)) (by rfl) T.m_times T.F_times.kp T.b_times (q_acons (q_var 0) (q_acons (q_call G_tens (prom0) (hr.mono (by decide)) (by rfl) T.m_tens T.F_tens.kp T.b_tens (q_acons (q_var 1) q_anil)) q_anil))))
    (qs_cons (q_ifS (qt_cmp op_eq oEqP (q_var 2) q_str (nomark _)) (qs_one (q_ret (q_call G_floor_of (prom0) (hr.mono (by decide)) (by rfl) T.m_floor_of T.F_floor_of.kp T.b_floor_of (q_acons (q_var 3) q_anil)))) qs_nil)
    (qs_cons (q_set (i := 4) sc_printed.nd rfl (Or.inl rfl) (q_call G_floor_of (prom0) (hr.mono (by decide)) (by rfl) T.m_floor_of T.F_floor_of.kp T.b_floor_of (q_acons (q_call G_plus (prom0) (hr.mono (by decide)) (by rfl) T.m_plus T.F_plus.kp T.b_plus (q_acons (q_var 3) (q_acons (q_tup (q_acons q_int (q_acons q_int q_anil))) q_anil))) q_anil)))
    (qs_cons (q_ifS (QW.qt (qw_and (qt_cmp op_eq oEqP (q_var 2) q_str (nomark _)) (qw_and (qt_cmp op_eq oEqP (q_ix (q_var 3) q_int (fun _ _ => rfl)) q_int (nomark _)) (qw_and1 (qt_cmp op_eq oEqP (q_op op_modN oModP (q_var 4) q_int) q_int (nomark _)))))) (qs_one (q_ret (q_op op_sub oSubP (q_var 4) q_int))) qs_nil)
    (qs_one (q_ret (q_var 4)))))))
theorem ok_choices_at (T : Txt K mg) : FnOk P w K mg base CX0 2 T.f_choices_at T.d_choices_at P_choices_at (spS bagK K F_choices_at) := by
  unfold F_choices_at
  have G_choose := ok_choose (P := P) (w := w) (base := base) T
  refine okS (N := N_choices_at) T.F_choices_at sc_choices_at rfl fun cdv A outer s H E hr => ?_
  exact (qs_one (q_ret (q_lc rfl sc_choices_at.nd (qi_range1 (by rfl) T.n_range (q_callB call_len oLenP (by rfl) T.n_len PySem.boot_len (q_acons (q_ix (q_var 0) q_int (fun _ _ => rfl)) q_anil))) (blkOk_by (own := [("j", 2)]) (N := N_choices_at) (sc := defScope s_choices_at) (by decide +kernel)) rfl (fun _ _ _ _ _ => (gw_name (i := 2) (by decide) sc_choices_at.nd rfl (Or.inl rfl))) (fun _ _ _ _ _ => qts_nil) (fun _ _ _ _ _ => (q_call G_choose (prom0) (hr.mono (by decide)) (by rfl) T.m_choose T.F_choose.kp T.b_choose (q_acons (q_var 1) (q_acons (q_var 2) q_anil)))))))
theorem ok_slips_summed (T : Txt K mg) : FnOk P w K mg base CX0 4 T.f_slips_summed T.d_slips_summed P_slips_summed (spS bagK K F_slips_summed) := by
  unfold F_slips_summed
  have G_product_sum := ok_product_sum (P := P) (w := w) (base := base) T
  have G_whole := ok_whole (P := P) (w := w) (base := base) T
  refine okC (N := N_slips_summed) T.F_slips_summed sc_slips_summed rfl fun cdv A outer s H E hr => ?_
  exact (qs_one (q_ret (q_call G_product_sum (promS) (hr.mono (by decide)) (by rfl) T.m_product_sum T.F_product_sum.kp T.b_product_sum (q_acons (q_var 0) (q_acons (q_lc rfl sc_slips_summed.nd (qi_any (q_var 1)) (blkOk_by (own := [("number", 2)]) (N := N_slips_summed) (sc := defScope s_slips_summed) (by decide +kernel)) rfl (fun _ _ _ _ _ => (gw_name (i := 2) (by decide) sc_slips_summed.nd rfl (Or.inl rfl))) (fun _ _ _ _ _ => qts_nil) (fun _ _ _ _ _ => (q_call G_whole (prom0) (hr.mono (by decide)) (by rfl) T.m_whole T.F_whole.kp T.b_whole (q_acons (q_var 2) q_anil)))) q_anil)))))
theorem ok_plain_line (T : Txt K mg) : FnOk P w K mg base CX0 5 T.f_plain_line T.d_plain_line P_plain_line (sp0 bagK K F_plain_line) := by
  have G_slips_summed := ok_slips_summed (P := P) (w := w) (base := base) T
  have G_choices_at := ok_choices_at (P := P) (w := w) (base := base) T
  refine ok0 (N := N_plain_line) T.F_plain_line sc_plain_line rfl fun cdv A outer s H E hr => ?_
  exact (qs_one (q_ret (q_call G_slips_summed (promS) (hr.mono (by decide)) (by rfl) T.m_slips_summed T.F_slips_summed.kp T.b_slips_summed (q_acons (q_ix (q_var 0) q_int (fun _ _ => rfl)) (q_acons (q_call G_choices_at (promS) (hr.mono (by decide)) (by rfl) T.m_choices_at T.F_choices_at.kp T.b_choices_at (q_acons (q_var 0) (q_acons (q_var 1) q_anil))) q_anil)))))
theorem ok_columns_at (T : Txt K mg) : FnOk P w K mg base CX0 5 T.f_columns_at T.d_columns_at P_columns_at (spS bagK K F_columns_at) := by
  unfold F_columns_at
  have G_slips_summed := ok_slips_summed (P := P) (w := w) (base := base) T
  have G_choose := ok_choose (P := P) (w := w) (base := base) T
  refine okS (N := N_columns_at) T.F_columns_at sc_columns_at rfl fun cdv A outer s H E hr => ?_
  exact (qs_cons (q_set (i := 2) sc_columns_at.nd rfl (Or.inr rfl) (q_callB call_len oLenP (by rfl) T.n_len PySem.boot_len (q_acons (q_var 0) q_anil)))
    (qs_one (q_ret (q_lc rfl sc_columns_at.nd (qi_range1 (by rfl) T.n_range (q_var 2)) (blkOk_by (own := [("order", 3)]) (N := N_columns_at) (sc := defScope s_columns_at) (by decide +kernel)) rfl (fun _ _ _ _ _ => (gw_name (i := 3) (by decide) sc_columns_at.nd rfl (Or.inl rfl))) (fun _ _ _ _ _ => qts_nil) (fun _ _ _ _ _ => (q_call G_slips_summed (promS) (hr.mono (by decide)) (by rfl) T.m_slips_summed T.F_slips_summed.kp T.b_slips_summed (q_acons (q_sl (q_var 0) (qo_some (q_var 3)) qo_none) (q_acons (q_lc rfl sc_columns_at.nd (qi_range1 (by rfl) T.n_range (q_op op_sub oSubP (q_var 2) (q_var 3))) (blkOk_in (own := [("j", 4)]) (N := N_columns_at) (sc0 := defScope s_columns_at) (by decide +kernel) rfl) rfl (fun _ _ _ _ _ => (gw_name (i := 4) (by decide) sc_columns_at.nd rfl (Or.inl rfl))) (fun _ _ _ _ _ => qts_nil) (fun _ _ _ _ _ => (q_call G_choose (prom0) (hr.mono (by decide)) (by rfl) T.m_choose T.F_choose.kp T.b_choose (q_acons (q_var 1) (q_acons (q_var 4) q_anil))))) q_anil))))))))
theorem ok_turned_on (T : Txt K mg) : FnOk P w K mg base CX0 3 T.f_turned_on T.d_turned_on P_turned_on (spS bagK K F_turned_on) := by
  unfold F_turned_on
  have G_plus := ok_plus (P := P) (w := w) (base := base) T
  refine okS (N := N_turned_on) T.F_turned_on sc_turned_on rfl fun cdv A outer s H E hr => ?_
  exact (qs_cons (q_setLc (j := 1) rfl sc_turned_on.nd rfl rfl (sw_true rfl rfl rfl (by decide +kernel)) (qi_zip (by rfl) T.n_zip (q_var 0) (q_sl (q_var 0) (qo_some q_int) qo_none)) (blkOk_by (own := [("one", 2), ("other", 3)]) (N := N_turned_on) (sc := defScope s_turned_on) (by decide +kernel)) rfl (fun _ _ _ _ _ => (gw_tup rfl (gsw_cons (i := 2) (by decide) sc_turned_on.nd rfl (Or.inl rfl) (gsw_cons (i := 3) (by decide) sc_turned_on.nd rfl (Or.inl rfl) gsw_nil)))) (fun _ _ _ _ _ => qts_nil) (fun _ _ _ _ _ => (q_call G_plus (prom0) (hr.mono (by decide)) (by rfl) T.m_plus T.F_plus.kp T.b_plus (q_acons (q_var 2) (q_acons (q_var 3) q_anil)))))
    (qs_one (q_ret (q_op op_addX oAddP (q_var 1) (q_sl (q_var 0) (qo_some (q_un un_neg oNegP q_int)) qo_none)))))
theorem ok_rows_turned (T : Txt K mg) : FnOk P w K mg base CX0 6 T.f_rows_turned T.d_rows_turned P_rows_turned (sp0 bagK K F_rows_turned) := by
  have G_plus := ok_plus (P := P) (w := w) (base := base) T
  have G_columns_at := ok_columns_at (P := P) (w := w) (base := base) T
  have G_turned_on := ok_turned_on (P := P) (w := w) (base := base) T
  refine ok0 (N := N_rows_turned) T.F_rows_turned sc_rows_turned rfl fun cdv A outer s H E hr => ?_
  exact (qs_cons (q_setLc (j := 4) rfl sc_rows_turned.nd rfl rfl (sw_true rfl rfl rfl (by decide +kernel)) (qi_zip (by rfl) T.n_zip (q_ix (q_var 0) q_int (fun _ _ => rfl)) (q_var 1)) (blkOk_by (own := [("value", 5), ("slip", 6)]) (N := N_rows_turned) (sc := defScope s_rows_turned) (by decide +kernel)) rfl (fun _ _ _ _ _ => (gw_tup rfl (gsw_cons (i := 5) (by decide) sc_rows_turned.nd rfl (Or.inl rfl) (gsw_cons (i := 6) (by decide) sc_rows_turned.nd rfl (Or.inl rfl) gsw_nil)))) (fun _ _ _ _ _ => qts_nil) (fun _ _ _ _ _ => (q_call G_plus (prom0) (hr.mono (by decide)) (by rfl) T.m_plus T.F_plus.kp T.b_plus (q_acons (q_var 5) (q_acons (q_var 6) q_anil)))))
    (qs_cons (q_par (i := 7) (j := 8) rfl sc_rows_turned.nd rfl rfl (by decide) rfl rfl (q_call G_columns_at (promS) (hr.mono (by decide)) (by rfl) T.m_columns_at T.F_columns_at.kp T.b_columns_at (q_acons (q_var 4) (q_acons (q_var 2) q_anil))) (q_lst q_anil) (by rfl))
    (qs_cons (q_for PassesOwn.never rfl (qi_range1 (by rfl) T.n_range (q_var 3)) (g_name (i := 9) sc_rows_turned.nd rfl (Or.inl rfl))
    (qs_cons (q_drop (q_append (q_var 8) (q_ix (q_var 7) q_int (fun _ _ => rfl))))
    (qs_one (q_set (i := 7) sc_rows_turned.nd rfl (Or.inl rfl) (q_call G_turned_on (promS) (hr.mono (by decide)) (by rfl) T.m_turned_on T.F_turned_on.kp T.b_turned_on (q_acons (q_var 7) q_anil))))))
    (qs_one (q_ret (q_callTy call_tuple_of oTupleP (by rfl) T.n_tuple bb_tuple (q_acons (q_var 8) q_anil)))))))
theorem ok_reach_at (T : Txt K mg) : FnOk P w K mg base CX0 5 T.f_reach_at T.d_reach_at P_reach_at (sp0 bagK K F_reach_at) := by
  have G_slips_summed := ok_slips_summed (P := P) (w := w) (base := base) T
  have G_choices_at := ok_choices_at (P := P) (w := w) (base := base) T
  refine ok0 (N := N_reach_at) T.F_reach_at sc_reach_at rfl fun cdv A outer s H E hr => ?_
  exact (qs_one (q_ret (q_call G_slips_summed (promS) (hr.mono (by decide)) (by rfl) T.m_slips_summed T.F_slips_summed.kp T.b_slips_summed (q_acons (q_ix (q_var 0) q_int (fun _ _ => rfl)) (q_acons (q_lc rfl sc_reach_at.nd (qi_any (q_call G_choices_at (promS) (hr.mono (by decide)) (by rfl) T.m_choices_at T.F_choices_at.kp T.b_choices_at (q_acons (q_var 0) (q_acons (q_var 1) q_anil)))) (blkOk_by (own := [("number", 2)]) (N := N_reach_at) (sc := defScope s_reach_at) (by decide +kernel)) rfl (fun _ _ _ _ _ => (gw_name (i := 2) (by decide) sc_reach_at.nd rfl (Or.inl rfl))) (fun _ _ _ _ _ => qts_nil) (fun _ _ _ _ _ => (q_callB call_abs oAbsP (by rfl) T.n_abs bb_abs (q_acons (q_var 2) q_anil)))) q_anil)))))
theorem ok_stretch (T : Txt K mg) : FnOk P w K mg base CX0 6 T.f_stretch T.d_stretch P_stretch (sp0 bagK K F_stretch) := by
  have G_plain_line := ok_plain_line (P := P) (w := w) (base := base) T
  have G_reach_at := ok_reach_at (P := P) (w := w) (base := base) T
  have G_plus := ok_plus (P := P) (w := w) (base := base) T
  have G_minus := ok_minus (P := P) (w := w) (base := base) T
  refine ok0 (N := N_stretch) T.F_stretch sc_stretch rfl fun cdv A outer s H E hr => ?_
  exact (qs_cons (q_par (i := 2) (j := 3) rfl sc_stretch.nd rfl rfl (by decide) rfl rfl (q_call G_plain_line (prom0) (hr.mono (by decide)) (by rfl) T.m_plain_line T.F_plain_line.kp T.b_plain_line (q_acons (q_var 0) (q_acons (q_var 1) q_anil))) (q_call G_reach_at (prom0) (hr.mono (by decide)) (by rfl) T.m_reach_at T.F_reach_at.kp T.b_reach_at (q_acons (q_var 0) (q_acons (q_var 1) q_anil))) (by rfl))
    (qs_one (q_ret (q_tup (q_acons (q_call G_minus (prom0) (hr.mono (by decide)) (by rfl) T.m_minus T.F_minus.kp T.b_minus (q_acons (q_var 2) (q_acons (q_var 3) q_anil))) (q_acons (q_call G_plus (prom0) (hr.mono (by decide)) (by rfl) T.m_plus T.F_plus.kp T.b_plus (q_acons (q_var 2) (q_acons (q_var 3) q_anil))) q_anil))))))
theorem ok_page_of (T : Txt K mg) : FnOk P w K mg base CX0 7 T.f_page_of T.d_page_of P_page_of (sp0 bagK K F_page_of) := by
  have G_rows_turned := ok_rows_turned (P := P) (w := w) (base := base) T
  have G_printed := ok_printed (P := P) (w := w) (base := base) T
  refine ok0 (N := N_page_of) T.F_page_of sc_page_of rfl fun cdv A outer s H E hr => ?_
  exact (qs_cons (q_asg (q_var 0) (g_tup rfl (g_cons (g_name (i := 2) sc_page_of.nd rfl (Or.inl rfl)) (g_cons (g_name (i := 3) sc_page_of.nd rfl (Or.inl rfl)) (g_cons (g_name (i := 4) sc_page_of.nd rfl (Or.inl rfl)) (g_cons (g_name (i := 5) sc_page_of.nd rfl (Or.inr rfl)) (g_cons (g_name (i := 6) sc_page_of.nd rfl (Or.inr rfl)) g_nil)))))))
    (qs_one (q_ret (q_scope (q_callTy call_tuple_of oTupleP (by rfl) T.n_tuple bb_tuple (q_acons (q_lc rfl sc_page_of.nd (qi_any (q_call G_rows_turned (prom0) (hr.mono (by decide)) (by rfl) T.m_rows_turned T.F_rows_turned.kp T.b_rows_turned (q_acons (q_var 2) (q_acons (q_var 1) (q_acons (q_var 3) (q_acons (q_var 4) q_anil)))))) (blkOk_by (own := [("one", 7)]) (N := N_page_of) (sc := defScope s_page_of) (by decide +kernel)) rfl (fun _ _ _ _ _ => (gw_name (i := 7) (by decide) sc_page_of.nd rfl (Or.inl rfl))) (fun _ _ _ _ _ => qts_nil) (fun _ _ _ _ _ => (q_call G_printed (prom0) (hr.mono (by decide)) (by rfl) T.m_printed T.F_printed.kp T.b_printed (q_acons (q_var 7) (q_acons (q_var 5) (q_acons (q_var 6) q_anil)))))) q_anil))))))
theorem ok_print_ends (T : Txt K mg) : FnOk P w K mg base CX0 7 T.f_print_ends T.d_print_ends P_print_ends (sp0 bagK K F_print_ends) := by
  have G_stretch := ok_stretch (P := P) (w := w) (base := base) T
  have G_printed := ok_printed (P := P) (w := w) (base := base) T
  refine ok0 (N := N_print_ends) T.F_print_ends sc_print_ends rfl fun cdv A outer s H E hr => ?_
  exact (qs_cons (q_asg (q_call G_stretch (prom0) (hr.mono (by decide)) (by rfl) T.m_stretch T.F_stretch.kp T.b_stretch (q_acons (q_ix (q_var 0) q_int (fun _ _ => rfl)) (q_acons (q_var 1) q_anil))) (g_tup rfl (g_cons (g_name (i := 2) sc_print_ends.nd rfl (Or.inl rfl)) (g_cons (g_name (i := 3) sc_print_ends.nd rfl (Or.inl rfl)) g_nil))))
    (qs_one (q_ret (q_tup (q_acons (q_call G_printed (prom0) (hr.mono (by decide)) (by rfl) T.m_printed T.F_printed.kp T.b_printed (q_acons (q_var 2) (q_acons (q_ix (q_var 0) q_int (fun _ _ => rfl)) (q_acons (q_ix (q_var 0) q_int (fun _ _ => rfl)) q_anil)))) (q_acons (q_call G_printed (prom0) (hr.mono (by decide)) (by rfl) T.m_printed T.F_printed.kp T.b_printed (q_acons (q_var 3) (q_acons (q_ix (q_var 0) q_int (fun _ _ => rfl)) (q_acons (q_ix (q_var 0) q_int (fun _ _ => rfl)) q_anil)))) q_anil))))))
theorem ok_can_print (T : Txt K mg) : FnOk P w K mg base CX0 8 T.f_can_print T.d_can_print P_can_print (sp0 bagK K F_can_print) := by
  have G_print_ends := ok_print_ends (P := P) (w := w) (base := base) T
  refine ok0 (N := N_can_print) T.F_can_print sc_can_print rfl fun cdv A outer s H E hr => ?_
  exact (qs_cons (q_asg (q_call G_print_ends (prom0) (hr.mono (by decide)) (by rfl) T.m_print_ends T.F_print_ends.kp T.b_print_ends (q_acons (q_var 0) (q_acons (q_var 1) q_anil))) (g_tup rfl (g_cons (g_name (i := 2) sc_can_print.nd rfl (Or.inl rfl)) (g_cons (g_name (i := 3) sc_can_print.nd rfl (Or.inl rfl)) g_nil))))
    (qs_one (q_ret (q_tupR rfl (by rfl) T.n_tuple (qr_two (by rfl) T.n_range (q_var 2) (q_op op_addX oAddP (q_var 3) q_int))))))
theorem okx__law_bag (T : Txt K mg) : FnOk P w K mg base CX0 1 T.f__law_bag T.d__law_bag P__law_bag (spS bagK K X__law_bag) := by
  refine okS (N := N__law_bag) T.F__law_bag sc__law_bag rfl fun cdv A outer s H E hr => ?_
  exact (qs_cons (q_set (i := 1) sc__law_bag.nd rfl (Or.inl rfl) (q_op op_addX oAddP (q_lc rfl sc__law_bag.nd (qi_any (q_var 0)) (blkOk_by (own := [("cell", 2)]) (N := N__law_bag) (sc := defScope s__law_bag) (by decide +kernel)) rfl (fun _ _ _ _ _ => (gw_name (i := 2) (by decide) sc__law_bag.nd rfl (Or.inl rfl))) (fun _ _ _ _ _ => qts_nil) (fun _ _ _ _ _ => (q_callB call_abs oAbsP (by rfl) T.n_abs bb_abs (q_acons (q_callTy call_int1 oIntP (by rfl) T.n_int bb_int (q_acons (q_var 2) q_anil)) q_anil)))) (q_lst (q_acons q_int q_anil))))
    (qs_cons (q_set (i := 3) sc__law_bag.nd rfl (Or.inl rfl) (q_lst q_anil))
    (qs_cons (q_ifS (qt_cmp op_eq oEqP (q_op op_modN oModP (q_callTy call_int1 oIntP (by rfl) T.n_int bb_int (q_acons (q_ix (q_var 1) q_int (fun _ _ => rfl)) q_anil)) q_int) q_int (nomark _)) (qs_cons (q_setLc (j := 3) rfl sc__law_bag.nd rfl rfl (sw_true rfl rfl rfl (by decide +kernel)) (qi_any (q_var 1)) (blkOk_by (own := [("cell", 2)]) (N := N__law_bag) (sc := defScope s__law_bag) (by decide +kernel)) rfl (fun _ _ _ _ _ => (gw_name (i := 2) (by decide) sc__law_bag.nd rfl (Or.inl rfl))) (fun _ _ _ _ _ => (qts_one (qt_cmp op_ge oGeP (q_var 2) (q_op op_pow oPowP q_int q_int) (nomark _)))) (fun _ _ _ _ _ => (q_op op_fdivX oFdivP (q_var 2) q_int)))
    (qs_one (q_drop (q_reverse (q_var 3))))) qs_nil)
    (qs_one (q_ret (q_lst (q_acons q_int (q_acons q_int (q_acons (q_var 3) (q_acons (q_lc rfl sc__law_bag.nd (qi_any (q_var 1)) (blkOk_by (own := [("cell", 2)]) (N := N__law_bag) (sc := defScope s__law_bag) (by decide +kernel)) rfl (fun _ _ _ _ _ => (gw_name (i := 2) (by decide) sc__law_bag.nd rfl (Or.inl rfl))) (fun _ _ _ _ _ => qts_nil) (fun _ _ _ _ _ => (q_op op_modN oModP (q_callTy call_int1 oIntP (by rfl) T.n_int bb_int (q_acons (q_var 2) q_anil)) q_int))) q_anil))))))))))
theorem okx__law_draw (T : Txt K mg) : FnOk P w K mg base CX0 1 T.f__law_draw T.d__law_draw P__law_draw (spS bagK K X__law_draw) := by
  refine okS (N := N__law_draw) T.F__law_draw sc__law_draw rfl fun cdv A outer s H E hr => ?_
  exact (qs_cons (q_asg (q_op op_addX oAddP (q_ix (q_var 0) q_int (fun _ _ => rfl)) q_int) (g_ix (q_var 0) q_int))
    (qs_cons (q_ifS (QW.qt (qw_and (qt_cmp op_eq oEqP (q_ix (q_var 0) q_int (fun _ _ => rfl)) q_int (nomark _)) (qw_and1 (qt_cmp op_gt oGtP (q_callB call_len oLenP (by rfl) T.n_len PySem.boot_len (q_acons (q_ix (q_var 0) q_int (fun _ _ => rfl)) q_anil)) q_int (nomark _))))) (qs_one (q_asg (q_pop (q_ix (q_var 0) q_int (fun _ _ => rfl))) (g_ix (q_var 0) q_int))) qs_nil)
    (qs_cons (q_ifS (qt_cmp op_gt oGtP (q_ix (q_var 0) q_int (fun _ _ => rfl)) q_int (nomark _)) (qs_cons (q_set (i := 2) sc__law_draw.nd rfl (Or.inl rfl) (q_op op_modN oModP (q_callTy call_int1 oIntP (by rfl) T.n_int bb_int (q_acons (q_ix (q_var 0) q_int (fun _ _ => rfl)) q_anil)) (q_var 1)))
    (qs_cons (q_asg (q_op op_fdivX oFdivP (q_ix (q_var 0) q_int (fun _ _ => rfl)) (q_var 1)) (g_ix (q_var 0) q_int))
    (qs_one (q_ret (q_var 2))))) qs_nil)
    (qs_cons (q_set (i := 3) sc__law_draw.nd rfl (Or.inl rfl) (q_ix (q_ix (q_var 0) q_int (fun _ _ => rfl)) (q_op op_modN oModP (q_callTy call_int1 oIntP (by rfl) T.n_int bb_int (q_acons (q_ix (q_var 0) q_int (fun _ _ => rfl)) q_anil)) (q_callB call_len oLenP (by rfl) T.n_len PySem.boot_len (q_acons (q_ix (q_var 0) q_int (fun _ _ => rfl)) q_anil))) (fun _ _ => rfl)))
    (qs_cons (q_set (i := 4) sc__law_draw.nd rfl (Or.inl rfl) (q_op op_modN oModP (q_callTy call_int1 oIntP (by rfl) T.n_int bb_int (q_acons (q_op op_addX oAddP (q_op op_addX oAddP (q_op op_mulA oMulP (q_var 3) q_int) (q_op op_mulA oMulP (q_ix (q_var 0) q_int (fun _ _ => rfl)) q_int)) q_int) q_anil)) q_int))
    (qs_one (q_ret (q_op op_modN oModP (q_op op_fdivX oFdivP (q_op op_modN oModP (q_callTy call_int1 oIntP (by rfl) T.n_int bb_int (q_acons (q_op op_addX oAddP (q_op op_addX oAddP (q_op op_mulA oMulP (q_var 4) (q_var 4)) (q_op op_mulA oMulP (q_var 4) q_int)) (q_op op_mulA oMulP (q_ix (q_var 0) q_int (fun _ _ => rfl)) q_int)) q_anil)) q_int) q_int) (q_var 1)))))))))
/-! ### the source of draws: its promises -/
section
variable {P : Program} {w : World} {K : PySem.W.Frag} {mg : Str → Option Value} {base : Heap}
def goodB (S : Store) : Prop := ∃ (b0 b1 : Int) (great cells : List Int), S = [[.int b0, .int b1, .lst 1, .lst 2], great.map PV.int, cells.map PV.int] ∧ 0 < cells.length
theorem ok__law_draw (T : Txt K mg) : FnOk P w K mg base CX0 1 T.f__law_draw T.d__law_draw P__law_draw (sp0 bagK K F_draw) := by
  refine draw_of goodB (okx__law_draw T) (fun own cs sh hl => ?_) (fun own S gd hl => ?_) (fun S m Q gd hm hm2 q => ?_)
  · obtain ⟨r, g, c, b0, b1, great, cells, rfl, rfl, h2⟩ := sh
    refine ⟨_, ⟨b0, b1, great, cells, rfl, h2⟩, rfl, fun n xs e => ?_⟩
    match n, e with
    | 0, e =>
      obtain rfl := Option.some.inj e
      exact ⟨_, rfl, fun H => .cons to_int (.cons to_int (.cons (to_lst rfl) (.cons (to_lst rfl) .nil)))⟩
    | 1, e =>
      obtain rfl := Option.some.inj e
      exact ⟨_, rfl, fun H => rps_of_ints great⟩
    | 2, e =>
      obtain rfl := Option.some.inj e
      exact ⟨_, rfl, fun H => rps_of_ints cells⟩
  · obtain ⟨b0, b1, great, cells, rfl, h2⟩ := gd
    match own, hl with
    | [r, g, c], _ =>
      refine ⟨_, ⟨r, g, c, b0, b1, great, cells, rfl, rfl, h2⟩, rfl, fun n xs d H e hr => ?_⟩
      match n, e with
      | 0, e =>
        obtain rfl := Option.some.inj e
        simp only [Rps, Rp] at hr
        obtain ⟨_, _, rfl, rfl, _, _, rfl, rfl, _, _, rfl, ⟨a, ea, rfl⟩, _, _, rfl, ⟨a2, ea2, rfl⟩, rfl⟩ := hr
        obtain rfl := Option.some.inj ea
        obtain rfl := Option.some.inj ea2
        rfl
      | 1, e =>
        obtain rfl := Option.some.inj e
        rw [rps_ints hr]; rfl
      | 2, e =>
        obtain rfl := Option.some.inj e
        rw [rps_ints hr]; rfl
  · obtain ⟨b0, b1, great, cells, rfl, h2⟩ := gd
    exact draw_plain b0 b1 great cells m h2 hm hm2 Q fun r g0 g1 gr h0 h1 => q _ _ h0 h1 ⟨g0, g1, gr, cells, rfl, h2⟩ rfl
theorem ok__law_bag (T : Txt K mg) : FnOk P w K mg base CX0 1 T.f__law_bag T.d__law_bag P__law_bag (spBag bagK K) := by
  refine bag_of (okx__law_bag T) bag_plain fun M' S' H' r v eb s r' gd => ?_
  obtain ⟨n, g, c, great, cells, rfl, en, eg, ec, hng, hnc, hgc, hpos⟩ := gd
  obtain ⟨a, ea, rfl⟩ := rp_lst r'
  obtain ⟨b, vs, eb', hb, rb⟩ := s.st.at_ g _ eg
  obtain ⟨d, vd, ed', hd, rd⟩ := s.st.at_ c _ ec
  obtain ⟨vs2, ha, ra⟩ := s.lst ea en
  have hv := rps_ints rb
  subst hv
  have hv := rps_ints rd
  subst hv
  simp only [Rps, Rp] at ra
  obtain ⟨_, _, rfl, rfl, _, _, rfl, rfl, _, _, rfl, ⟨a', ea', rfl⟩, _, _, rfl, ⟨a2', ea2', rfl⟩, rfl⟩ := ra
  rw [eb'] at ea'
  obtain rfl := Option.some.inj ea'
  rw [ed'] at ea2'
  obtain rfl := Option.some.inj ea2'
  refine ⟨[a, b, d], a, rfl, ⟨?_, (by show 0 < 3; decide), _, ⟨a, b, d, 0, 0, great, cells, rfl, rfl, hpos⟩, rfl, fun n c e => ?_⟩, rfl⟩
  · have h1 : a ≠ b := fun e => by
      subst e
      exact absurd (nd_ix s.st.nd ea eb') hng
    have h2 : a ≠ d := fun e => by
      subst e
      exact absurd (nd_ix s.st.nd ea ed') hnc
    have h3 : b ≠ d := fun e => by
      subst e
      exact absurd (nd_ix s.st.nd eb' ed') hgc
    simp [h1, h2, h3]
  · match n, e with
    | 0, e => obtain rfl := Option.some.inj e; exact ⟨_, rfl, ha⟩
    | 1, e => obtain rfl := Option.some.inj e; exact ⟨_, rfl, hb⟩
    | 2, e => obtain rfl := Option.some.inj e; exact ⟨_, rfl, hd⟩
end
theorem ok__law_pick (T : Txt K mg) : FnOk P w K mg base CX0 2 T.f__law_pick T.d__law_pick P__law_pick (spS bagK K F__law_pick) := by
  unfold F__law_pick
  have G__law_draw := ok__law_draw (P := P) (w := w) (base := base) T
  refine okC (N := N__law_pick) T.F__law_pick sc__law_pick rfl fun cdv A outer s H E hr => ?_
  exact (qs_one (q_ret (q_ix (q_var 1) (q_call G__law_draw (prom0) (hr.mono (by decide)) (by rfl) T.m__law_draw T.F__law_draw.kp T.b__law_draw (q_acons (q_var 0) (q_acons (q_callB call_len oLenP (by rfl) T.n_len PySem.boot_len (q_acons (q_var 1) q_anil)) q_anil))) (fun _ _ => rfl))))
theorem okr__law_same (T : Txt K mg) {k : Nat} (Fr : PF0) [Mo0 Fr] (Gr : FnOk P w K mg base CX0 k T.f__law_same T.d__law_same P__law_same (sp0 bagK K Fr)) : FnOk P w K mg base CX0 (k + 1) T.f__law_same T.d__law_same P__law_same (sp0 bagK K (X__law_same Fr)) := by
  refine ok0 (N := N__law_same) T.F__law_same sc__law_same rfl fun cdv A outer s H E hr => ?_
  exact (qs_cons (q_ifS (qt_cmp op_isN oIsNP (q_var 1) q_non (nomark _)) (qs_one (q_ret (q_cmp op_isN oIsNP (q_var 0) q_non (nomark _)))) qs_nil)
    (qs_cons (q_ifS (QW.qt (qw_or (qt_truth (q_isi isi_bool (by rfl) T.n_isinstance bb_isinstance (q_var 1) (by rfl) T.n_bool bb_bool)) (qw_or1 (qt_truth (q_isi isi_bool (by rfl) T.n_isinstance bb_isinstance (q_var 0) (by rfl) T.n_bool bb_bool))))) (qs_one (q_ret (q_and (q_isi isi_bool (by rfl) T.n_isinstance bb_isinstance (q_var 1) (by rfl) T.n_bool bb_bool) (q_and (q_isi isi_bool (by rfl) T.n_isinstance bb_isinstance (q_var 0) (by rfl) T.n_bool bb_bool) (q_one (q_cmp op_eq oEqP (q_var 0) (q_var 1) (nomark _))))))) qs_nil)
    (qs_cons (q_ifS (qt_truth (q_isi isi_int (by rfl) T.n_isinstance bb_isinstance (q_var 1) (by rfl) T.n_int bb_int)) (qs_one (q_ret (q_and (q_isi isi_int (by rfl) T.n_isinstance bb_isinstance (q_var 0) (by rfl) T.n_int bb_int) (q_one (q_cmp op_eq oEqP (q_var 0) (q_var 1) (nomark _)))))) qs_nil)
    (qs_cons (q_ifS (qt_truth (q_isi isi_str (by rfl) T.n_isinstance bb_isinstance (q_var 1) (by rfl) T.n_str bb_str)) (qs_one (q_ret (q_and (q_isi isi_str (by rfl) T.n_isinstance bb_isinstance (q_var 0) (by rfl) T.n_str bb_str) (q_one (q_cmp op_eq oEqP (q_var 0) (q_var 1) (nomark _)))))) qs_nil)
    (qs_cons (q_ifS (QW.qt (qw_or (qt_not (qt_truth (q_isi isi_tuple (by rfl) T.n_isinstance bb_isinstance (q_var 1) (by rfl) T.n_tuple bb_tuple))) (qw_or (qt_not (qt_truth (q_isi isi_tuple (by rfl) T.n_isinstance bb_isinstance (q_var 0) (by rfl) T.n_tuple bb_tuple))) (qw_or1 (qt_cmp op_ne oNeP (q_callB call_len oLenP (by rfl) T.n_len PySem.boot_len (q_acons (q_var 0) q_anil)) (q_callB call_len oLenP (by rfl) T.n_len PySem.boot_len (q_acons (q_var 1) q_anil)) (nomark _)))))) (qs_one (q_ret q_bl)) qs_nil)
    (qs_cons (q_for PassesOwn.never rfl (qi_range1 (by rfl) T.n_range (q_callB call_len oLenP (by rfl) T.n_len PySem.boot_len (q_acons (q_var 1) q_anil))) (g_name (i := 2) sc__law_same.nd rfl (Or.inl rfl))
    (qs_one (q_ifS (qt_not (qt_truth (q_call Gr (prom0) hr (by rfl) T.m__law_same T.F__law_same.kp T.b__law_same (q_acons (q_ix (q_var 0) (q_var 2) (fun _ _ => rfl)) (q_acons (q_ix (q_var 1) (q_var 2) (fun _ _ => rfl)) q_anil))))) (qs_one (q_ret q_bl)) qs_nil)))
    (qs_one (q_ret q_bl))))))))
theorem ok__law_same (T : Txt K mg) : FnOk P w K mg base CX0 8 T.f__law_same T.d__law_same P__law_same (sp0 bagK K F__law_same) := by
  have go : ∀ d, FnOk P w K mg base CX0 (d + 2) T.f__law_same T.d__law_same P__law_same (sp0 bagK K (F_same true d)) := by
    intro d
    induction d with
    | zero => exact sp0_imp (okr__law_same T (fun _ _ => False) (ok_false (k := 1))) (same_any _ 0 fun m e => absurd e (by omega))
    | succ d ih => exact sp0_imp (okr__law_same T (F_same true d) ih) (same_any _ (d + 1) fun m e xs Q q => by
        obtain rfl : d = m := by omega
        exact q)
  exact go 6
theorem ok__law_gcd (T : Txt K mg) : FnOk P w K mg base CX0 1 T.f__law_gcd T.d__law_gcd P__law_gcd (sp0 bagK K F__law_gcd) := by
  refine ok0 (N := N__law_gcd) T.F__law_gcd sc__law_gcd rfl fun cdv A outer s H E hr => ?_
  exact (qs_cons (q_par (i := 0) (j := 1) rfl sc__law_gcd.nd rfl rfl (by decide) rfl rfl (q_callB call_abs oAbsP (by rfl) T.n_abs bb_abs (q_acons (q_var 0) q_anil)) (q_callB call_abs oAbsP (by rfl) T.n_abs bb_abs (q_acons (q_var 1) q_anil)) (by rfl))
    (qs_cons (q_while PassesOwn.never (qt_cmp op_ne oNeP (q_var 1) q_int (nomark _))
    (qs_one (q_par (i := 0) (j := 1) rfl sc__law_gcd.nd rfl rfl (by decide) rfl rfl (q_var 1) (q_op op_modN oModP (q_callTy call_int1 oIntP (by rfl) T.n_int bb_int (q_acons (q_var 0) q_anil)) (q_var 1)) (by rfl))))
    (qs_one (q_ret (q_var 0)))))
theorem ok__law_fr (T : Txt K mg) : FnOk P w K mg base CX0 2 T.f__law_fr T.d__law_fr P__law_fr (sp0 bagK K F__law_fr) := by
  have G__law_gcd := ok__law_gcd (P := P) (w := w) (base := base) T
  refine ok0 (N := N__law_fr) T.F__law_fr sc__law_fr rfl fun cdv A outer s H E hr => ?_
  exact (qs_cons (q_set (i := 2) sc__law_fr.nd rfl (Or.inl rfl) (q_call G__law_gcd (prom0) (hr.mono (by decide)) (by rfl) T.m__law_gcd T.F__law_gcd.kp T.b__law_gcd (q_acons (q_var 0) (q_acons (q_var 1) q_anil))))
    (qs_cons (q_ifS (qt_cmp op_lt oLtP (q_var 1) q_int (nomark _)) (qs_one (q_set (i := 2) sc__law_fr.nd rfl (Or.inl rfl) (q_op op_sub oSubP q_int (q_var 2)))) qs_nil)
    (qs_one (q_ret (q_tup (q_acons (q_op op_fdivX oFdivP (q_var 0) (q_var 2)) (q_acons (q_op op_fdivX oFdivP (q_var 1) (q_var 2)) q_anil)))))))
theorem ok__law_plus (T : Txt K mg) : FnOk P w K mg base CX0 3 T.f__law_plus T.d__law_plus P__law_plus (sp0 bagK K F__law_plus) := by
  have G__law_fr := ok__law_fr (P := P) (w := w) (base := base) T
  refine ok0 (N := N__law_plus) T.F__law_plus sc__law_plus rfl fun cdv A outer s H E hr => ?_
  exact (qs_one (q_ret (q_call G__law_fr (prom0) (hr.mono (by decide)) (by rfl) T.m__law_fr T.F__law_fr.kp T.b__law_fr (q_acons (q_op op_addX oAddP (q_op op_mulA oMulP (q_ix (q_var 0) q_int (fun _ _ => rfl)) (q_ix (q_var 1) q_int (fun _ _ => rfl))) (q_op op_mulA oMulP (q_ix (q_var 1) q_int (fun _ _ => rfl)) (q_ix (q_var 0) q_int (fun _ _ => rfl)))) (q_acons (q_op op_mulA oMulP (q_ix (q_var 0) q_int (fun _ _ => rfl)) (q_ix (q_var 1) q_int (fun _ _ => rfl))) q_anil)))))
theorem ok__law_minus (T : Txt K mg) : FnOk P w K mg base CX0 3 T.f__law_minus T.d__law_minus P__law_minus (sp0 bagK K F__law_minus) := by
  have G__law_fr := ok__law_fr (P := P) (w := w) (base := base) T
  refine ok0 (N := N__law_minus) T.F__law_minus sc__law_minus rfl fun cdv A outer s H E hr => ?_
  exact (qs_one (q_ret (q_call G__law_fr (prom0) (hr.mono (by decide)) (by rfl) T.m__law_fr T.F__law_fr.kp T.b__law_fr (q_acons (q_op op_sub oSubP (q_op op_mulA oMulP (q_ix (q_var 0) q_int (fun _ _ => rfl)) (q_ix (q_var 1) q_int (fun _ _ => rfl))) (q_op op_mulA oMulP (q_ix (q_var 1) q_int (fun _ _ => rfl)) (q_ix (q_var 0) q_int (fun _ _ => rfl)))) (q_acons (q_op op_mulA oMulP (q_ix (q_var 0) q_int (fun _ _ => rfl)) (q_ix (q_var 1) q_int (fun _ _ => rfl))) q_anil)))))
theorem ok__law_times (T : Txt K mg) : FnOk P w K mg base CX0 3 T.f__law_times T.d__law_times P__law_times (sp0 bagK K F__law_times) := by
  have G__law_fr := ok__law_fr (P := P) (w := w) (base := base) T
  refine ok0 (N := N__law_times) T.F__law_times sc__law_times rfl fun cdv A outer s H E hr => ?_
  exact (qs_one (q_ret (q_call G__law_fr (prom0) (hr.mono (by decide)) (by rfl) T.m__law_fr T.F__law_fr.kp T.b__law_fr (q_acons (q_op op_mulA oMulP (q_ix (q_var 0) q_int (fun _ _ => rfl)) (q_ix (q_var 1) q_int (fun _ _ => rfl))) (q_acons (q_op op_mulA oMulP (q_ix (q_var 0) q_int (fun _ _ => rfl)) (q_ix (q_var 1) q_int (fun _ _ => rfl))) q_anil)))))
theorem ok__law_below (T : Txt K mg) : FnOk P w K mg base CX0 1 T.f__law_below T.d__law_below P__law_below (sp0 bagK K F__law_below) := by
  refine ok0 (N := N__law_below) T.F__law_below sc__law_below rfl fun cdv A outer s H E hr => ?_
  exact (qs_one (q_ret (q_cmp op_lt oLtP (q_op op_mulA oMulP (q_ix (q_var 0) q_int (fun _ _ => rfl)) (q_ix (q_var 1) q_int (fun _ _ => rfl))) (q_op op_mulA oMulP (q_ix (q_var 1) q_int (fun _ _ => rfl)) (q_ix (q_var 0) q_int (fun _ _ => rfl))) (nomark _))))
theorem ok__law_ten (T : Txt K mg) : FnOk P w K mg base CX0 1 T.f__law_ten T.d__law_ten P__law_ten (sp0 bagK K F__law_ten) := by
  refine ok0 (N := N__law_ten) T.F__law_ten sc__law_ten rfl fun cdv A outer s H E hr => ?_
  exact (qs_cons (q_set (i := 1) sc__law_ten.nd rfl (Or.inl rfl) q_int)
    (qs_cons (q_for PassesOwn.never rfl (qi_range1 (by rfl) T.n_range (q_var 0)) (g_name (i := 2) sc__law_ten.nd rfl (Or.inl rfl))
    (qs_one (q_set (i := 1) sc__law_ten.nd rfl (Or.inl rfl) (q_op op_mulA oMulP (q_var 1) q_int))))
    (qs_one (q_ret (q_var 1)))))
theorem ok__law_printed (T : Txt K mg) : FnOk P w K mg base CX0 2 T.f__law_printed T.d__law_printed P__law_printed (sp0 bagK K F__law_printed) := by
  have G__law_ten := ok__law_ten (P := P) (w := w) (base := base) T
  refine ok0 (N := N__law_printed) T.F__law_printed sc__law_printed rfl fun cdv A outer s H E hr => ?_
  exact (qs_cons (q_par (i := 3) (j := 4) rfl sc__law_printed.nd rfl rfl (by decide) rfl rfl (q_op op_mulA oMulP (q_ix (q_var 0) q_int (fun _ _ => rfl)) (q_call G__law_ten (prom0) (hr.mono (by decide)) (by rfl) T.m__law_ten T.F__law_ten.kp T.b__law_ten (q_acons (q_var 1) q_anil))) (q_ix (q_var 0) q_int (fun _ _ => rfl)) (by rfl))
    (qs_cons (q_set (i := 5) sc__law_printed.nd rfl (Or.inl rfl) (q_op op_fdivX oFdivP (q_var 3) (q_var 4)))
    (qs_cons (q_set (i := 6) sc__law_printed.nd rfl (Or.inl rfl) (q_op op_sub oSubP (q_var 3) (q_op op_mulA oMulP (q_var 5) (q_var 4))))
    (qs_cons (q_ifS (QW.qt (qw_or (qt_cmp op_eq oEqP (q_var 2) q_str (nomark _)) (qw_or1 (qt_cmp op_lt oLtP (q_op op_mulA oMulP q_int (q_var 6)) (q_var 4) (nomark _))))) (qs_one (q_ret (q_var 5))) qs_nil)
    (qs_cons (q_ifS (QW.qt (qw_or (qt_cmp op_gt oGtP (q_op op_mulA oMulP q_int (q_var 6)) (q_var 4) (nomark _)) (qw_or1 (qt_cmp op_eq oEqP (q_var 2) q_str (nomark _))))) (qs_one (q_ret (q_op op_addX oAddP (q_var 5) q_int))) qs_nil)
    (qs_one (q_ret (q_op op_addX oAddP (q_var 5) (q_op op_modN oModP (q_callTy call_int1 oIntP (by rfl) T.n_int bb_int (q_acons (q_var 5) q_anil)) q_int)))))))))
theorem ok__law_stripe (T : Txt K mg) : FnOk P w K mg base CX0 3 T.f__law_stripe T.d__law_stripe P__law_stripe (sp0 bagK K F__law_stripe) := by
  have G__law_ten := ok__law_ten (P := P) (w := w) (base := base) T
  have G__law_fr := ok__law_fr (P := P) (w := w) (base := base) T
  refine ok0 (N := N__law_stripe) T.F__law_stripe sc__law_stripe rfl fun cdv A outer s H E hr => ?_
  exact (qs_cons (q_set (i := 3) sc__law_stripe.nd rfl (Or.inl rfl) (q_call G__law_ten (prom0) (hr.mono (by decide)) (by rfl) T.m__law_ten T.F__law_ten.kp T.b__law_ten (q_acons (q_var 1) q_anil)))
    (qs_cons (q_ifS (qt_cmp op_eq oEqP (q_var 2) q_str (nomark _)) (qs_one (q_ret (q_tup (q_acons (q_call G__law_fr (prom0) (hr.mono (by decide)) (by rfl) T.m__law_fr T.F__law_fr.kp T.b__law_fr (q_acons (q_var 0) (q_acons (q_var 3) q_anil))) (q_acons (q_call G__law_fr (prom0) (hr.mono (by decide)) (by rfl) T.m__law_fr T.F__law_fr.kp T.b__law_fr (q_acons (q_op op_addX oAddP (q_var 0) q_int) (q_acons (q_var 3) q_anil))) (q_acons q_bl (q_acons q_bl q_anil))))))) qs_nil)
    (qs_cons (q_set (i := 4) sc__law_stripe.nd rfl (Or.inl rfl) (q_cmp op_eq oEqP (q_op op_modN oModP (q_callTy call_int1 oIntP (by rfl) T.n_int bb_int (q_acons (q_var 0) q_anil)) q_int) q_int (nomark _)))
    (qs_one (q_ret (q_tup (q_acons (q_call G__law_fr (prom0) (hr.mono (by decide)) (by rfl) T.m__law_fr T.F__law_fr.kp T.b__law_fr (q_acons (q_op op_sub oSubP (q_op op_mulA oMulP q_int (q_var 0)) q_int) (q_acons (q_op op_mulA oMulP q_int (q_var 3)) q_anil))) (q_acons (q_call G__law_fr (prom0) (hr.mono (by decide)) (by rfl) T.m__law_fr T.F__law_fr.kp T.b__law_fr (q_acons (q_op op_addX oAddP (q_op op_mulA oMulP q_int (q_var 0)) q_int) (q_acons (q_op op_mulA oMulP q_int (q_var 3)) q_anil))) (q_acons (q_or (q_cmp op_eq oEqP (q_var 2) q_str (nomark _)) (q_one (q_var 4))) (q_acons (q_and (q_cmp op_eq oEqP (q_var 2) q_str (nomark _)) (q_one (q_var 4))) q_anil))))))))))
theorem ok__law_choose (T : Txt K mg) : FnOk P w K mg base CX0 1 T.f__law_choose T.d__law_choose P__law_choose (sp0 bagK K F__law_choose) := by
  refine ok0 (N := N__law_choose) T.F__law_choose sc__law_choose rfl fun cdv A outer s H E hr => ?_
  exact (qs_cons (q_asg (q_tup (q_acons q_int (q_acons q_int q_anil))) (g_tup rfl (g_cons (g_name (i := 2) sc__law_choose.nd rfl (Or.inl rfl)) (g_cons (g_name (i := 3) sc__law_choose.nd rfl (Or.inl rfl)) g_nil))))
    (qs_cons (q_for PassesOwn.never rfl (qi_range1 (by rfl) T.n_range (q_var 1)) (g_name (i := 4) sc__law_choose.nd rfl (Or.inl rfl))
    (qs_cons (q_set (i := 2) sc__law_choose.nd rfl (Or.inl rfl) (q_op op_mulA oMulP (q_var 2) (q_op op_sub oSubP (q_var 0) (q_var 4))))
    (qs_one (q_set (i := 3) sc__law_choose.nd rfl (Or.inl rfl) (q_op op_mulA oMulP (q_var 3) (q_op op_addX oAddP (q_var 4) q_int))))))
    (qs_one (q_ret (q_op op_fdivX oFdivP (q_var 2) (q_var 3))))))
theorem ok__law_at (T : Txt K mg) : FnOk P w K mg base CX0 4 T.f__law_at T.d__law_at P__law_at (sp0 bagK K F__law_at) := by
  have G__law_plus := ok__law_plus (P := P) (w := w) (base := base) T
  have G__law_times := ok__law_times (P := P) (w := w) (base := base) T
  have G__law_choose := ok__law_choose (P := P) (w := w) (base := base) T
  refine ok0 (N := N__law_at) T.F__law_at sc__law_at rfl fun cdv A outer s H E hr => ?_
  exact (qs_cons (q_set (i := 3) sc__law_at.nd rfl (Or.inl rfl) (q_tup (q_acons q_int (q_acons q_int q_anil))))
    (qs_cons (q_for PassesOwn.never rfl (qi_range1 (by rfl) T.n_range (q_callB call_len oLenP (by rfl) T.n_len PySem.boot_len (q_acons (q_ix (q_var 0) q_int (fun _ _ => rfl)) q_anil))) (g_name (i := 4) sc__law_at.nd rfl (Or.inl rfl))
    (qs_one (q_set (i := 3) sc__law_at.nd rfl (Or.inl rfl) (q_call G__law_plus (prom0) (hr.mono (by decide)) (by rfl) T.m__law_plus T.F__law_plus.kp T.b__law_plus (q_acons (q_var 3) (q_acons (q_call G__law_times (prom0) (hr.mono (by decide)) (by rfl) T.m__law_times T.F__law_times.kp T.b__law_times (q_acons (q_tup (q_acons (q_call G__law_choose (prom0) (hr.mono (by decide)) (by rfl) T.m__law_choose T.F__law_choose.kp T.b__law_choose (q_acons (q_var 2) (q_acons (q_var 4) q_anil))) (q_acons q_int q_anil))) (q_acons (q_call G__law_plus (prom0) (hr.mono (by decide)) (by rfl) T.m__law_plus T.F__law_plus.kp T.b__law_plus (q_acons (q_ix (q_ix (q_var 0) q_int (fun _ _ => rfl)) (q_var 4) (fun _ _ => rfl)) (q_acons (q_ix (q_var 1) (q_var 4) (fun _ _ => rfl)) q_anil))) q_anil))) q_anil))))))
    (qs_one (q_ret (q_var 3)))))
theorem ok__law_no_hand (T : Txt K mg) : FnOk P w K mg base CX0 1 T.f__law_no_hand T.d__law_no_hand P__law_no_hand (sp0 bagK K F__law_no_hand) := by
  refine ok0 (N := N__law_no_hand) T.F__law_no_hand sc__law_no_hand rfl fun cdv A outer s H E hr => ?_
  exact (qs_one (q_ret (q_scope (q_callTy call_tuple_of oTupleP (by rfl) T.n_tuple bb_tuple (q_acons (q_lc rfl sc__law_no_hand.nd (qi_any (q_ix (q_var 0) q_int (fun _ _ => rfl))) (blkOk_by (own := [("one", 1)]) (N := N__law_no_hand) (sc := defScope s__law_no_hand) (by decide +kernel)) rfl (fun _ _ _ _ _ => (gw_name (i := 1) (by decide) sc__law_no_hand.nd rfl (Or.inl rfl))) (fun _ _ _ _ _ => qts_nil) (fun _ _ _ _ _ => (q_tup (q_acons q_int (q_acons q_int q_anil))))) q_anil)))))
theorem ok__law_far (T : Txt K mg) : FnOk P w K mg base CX0 4 T.f__law_far T.d__law_far P__law_far (sp0 bagK K F__law_far) := by
  have G__law_plus := ok__law_plus (P := P) (w := w) (base := base) T
  have G__law_times := ok__law_times (P := P) (w := w) (base := base) T
  have G__law_choose := ok__law_choose (P := P) (w := w) (base := base) T
  refine ok0 (N := N__law_far) T.F__law_far sc__law_far rfl fun cdv A outer s H E hr => ?_
  exact (qs_cons (q_set (i := 2) sc__law_far.nd rfl (Or.inl rfl) (q_tup (q_acons q_int (q_acons q_int q_anil))))
    (qs_cons (q_for PassesOwn.never rfl (qi_range1 (by rfl) T.n_range (q_callB call_len oLenP (by rfl) T.n_len PySem.boot_len (q_acons (q_ix (q_var 0) q_int (fun _ _ => rfl)) q_anil))) (g_name (i := 3) sc__law_far.nd rfl (Or.inl rfl))
    (qs_one (q_set (i := 2) sc__law_far.nd rfl (Or.inl rfl) (q_call G__law_plus (prom0) (hr.mono (by decide)) (by rfl) T.m__law_plus T.F__law_plus.kp T.b__law_plus (q_acons (q_var 2) (q_acons (q_call G__law_times (prom0) (hr.mono (by decide)) (by rfl) T.m__law_times T.F__law_times.kp T.b__law_times (q_acons (q_tup (q_acons (q_callB call_abs oAbsP (by rfl) T.n_abs bb_abs (q_acons (q_call G__law_choose (prom0) (hr.mono (by decide)) (by rfl) T.m__law_choose T.F__law_choose.kp T.b__law_choose (q_acons (q_var 1) (q_acons (q_var 3) q_anil))) q_anil)) (q_acons q_int q_anil))) (q_acons (q_ix (q_ix (q_var 0) q_int (fun _ _ => rfl)) (q_var 3) (fun _ _ => rfl)) q_anil))) q_anil))))))
    (qs_one (q_ret (q_var 2)))))
theorem ok__law_start (T : Txt K mg) : FnOk P w K mg base CX0 3 T.f__law_start T.d__law_start P__law_start (sp0 bagK K F__law_start) := by
  have G__law_draw := ok__law_draw (P := P) (w := w) (base := base) T
  have G__law_fr := ok__law_fr (P := P) (w := w) (base := base) T
  have G__law_pick := ok__law_pick (P := P) (w := w) (base := base) T
  refine ok0 (N := N__law_start) T.F__law_start sc__law_start rfl fun cdv A outer s H E hr => ?_
  exact (qs_cons (q_set (i := 2) sc__law_start.nd rfl (Or.inl rfl) (q_call G__law_draw (prom0) (hr.mono (by decide)) (by rfl) T.m__law_draw T.F__law_draw.kp T.b__law_draw (q_acons (q_var 0) (q_acons (q_op op_addX oAddP (q_var 1) q_int) q_anil))))
    (qs_cons (q_set (i := 3) sc__law_start.nd rfl (Or.inl rfl) (q_scope (q_callTy call_tuple_of oTupleP (by rfl) T.n_tuple bb_tuple (q_acons (q_lc rfl sc__law_start.nd (qi_range1 (by rfl) T.n_range (q_op op_addX oAddP (q_var 2) q_int)) (blkOk_by (own := [("j", 4)]) (N := N__law_start) (sc := defScope s__law_start) (by decide +kernel)) rfl (fun _ _ _ _ _ => (gw_name (i := 4) (by decide) sc__law_start.nd rfl (Or.inl rfl))) (fun _ _ _ _ _ => qts_nil) (fun _ _ _ _ _ => (q_call G__law_fr (prom0) (hr.mono (by decide)) (by rfl) T.m__law_fr T.F__law_fr.kp T.b__law_fr (q_acons (q_op op_sub oSubP (q_call G__law_draw (prom0) (hr.mono (by decide)) (by rfl) T.m__law_draw T.F__law_draw.kp T.b__law_draw (q_acons (q_var 0) (q_acons q_int q_anil))) q_int) (q_acons (q_call G__law_pick (promS) (hr.mono (by decide)) (by rfl) T.m__law_pick T.F__law_pick.kp T.b__law_pick (q_acons (q_var 0) (q_acons (q_lst (q_acons q_int (q_acons q_int (q_acons q_int (q_acons q_int q_anil))))) q_anil))) q_anil))))) q_anil))))
    (qs_cons (q_set (i := 5) sc__law_start.nd rfl (Or.inl rfl) (q_scope (q_callTy call_tuple_of oTupleP (by rfl) T.n_tuple bb_tuple (q_acons (q_lc rfl sc__law_start.nd (qi_range1 (by rfl) T.n_range (q_op op_addX oAddP (q_var 2) q_int)) (blkOk_by (own := [("j", 4)]) (N := N__law_start) (sc := defScope s__law_start) (by decide +kernel)) rfl (fun _ _ _ _ _ => (gw_name (i := 4) (by decide) sc__law_start.nd rfl (Or.inl rfl))) (fun _ _ _ _ _ => qts_nil) (fun _ _ _ _ _ => (q_call G__law_fr (prom0) (hr.mono (by decide)) (by rfl) T.m__law_fr T.F__law_fr.kp T.b__law_fr (q_acons (q_call G__law_pick (promS) (hr.mono (by decide)) (by rfl) T.m__law_pick T.F__law_pick.kp T.b__law_pick (q_acons (q_var 0) (q_acons (q_lst (q_acons q_int (q_acons q_int (q_acons q_int (q_acons q_int (q_acons q_int (q_acons q_int q_anil))))))) q_anil))) (q_acons (q_call G__law_pick (promS) (hr.mono (by decide)) (by rfl) T.m__law_pick T.F__law_pick.kp T.b__law_pick (q_acons (q_var 0) (q_acons (q_lst (q_acons q_int (q_acons q_int (q_acons q_int q_anil)))) q_anil))) q_anil))))) q_anil))))
    (qs_one (q_ret (q_tup (q_acons (q_var 3) (q_acons (q_var 5) q_anil))))))))
theorem ok__law_hand (T : Txt K mg) : FnOk P w K mg base CX0 4 T.f__law_hand T.d__law_hand P__law_hand (sp0 bagK K F__law_hand) := by
  have G__law_times := ok__law_times (P := P) (w := w) (base := base) T
  have G__law_pick := ok__law_pick (P := P) (w := w) (base := base) T
  have G__law_draw := ok__law_draw (P := P) (w := w) (base := base) T
  have G__law_below := ok__law_below (P := P) (w := w) (base := base) T
  refine ok0 (N := N__law_hand) T.F__law_hand sc__law_hand rfl fun cdv A outer s H E hr => ?_
  exact (qs_cons (q_set (i := 2) sc__law_hand.nd rfl (Or.inl rfl) (q_lst q_anil))
    (qs_cons (q_for PassesOwn.never rfl (qi_any (q_ix (q_var 1) q_int (fun _ _ => rfl))) (g_name (i := 3) sc__law_hand.nd rfl (Or.inl rfl))
    (qs_cons (q_drop (q_append (q_var 2) (q_call G__law_times (prom0) (hr.mono (by decide)) (by rfl) T.m__law_times T.F__law_times.kp T.b__law_times (q_acons (q_var 3) (q_acons (q_call G__law_pick (promS) (hr.mono (by decide)) (by rfl) T.m__law_pick T.F__law_pick.kp T.b__law_pick (q_acons (q_var 0) (q_acons (q_lst (q_acons (q_tup (q_acons q_int (q_acons q_int q_anil))) (q_acons (q_tup (q_acons q_int (q_acons q_int q_anil))) (q_acons (q_tup (q_acons (q_un un_neg oNegP q_int) (q_acons q_int q_anil))) (q_acons (q_tup (q_acons q_int (q_acons q_int q_anil))) (q_acons (q_tup (q_acons (q_un un_neg oNegP q_int) (q_acons q_int q_anil))) (q_acons (q_tup (q_acons (q_op op_sub oSubP (q_call G__law_draw (prom0) (hr.mono (by decide)) (by rfl) T.m__law_draw T.F__law_draw.kp T.b__law_draw (q_acons (q_var 0) (q_acons q_int q_anil))) q_int) (q_acons (q_op op_addX oAddP q_int (q_call G__law_draw (prom0) (hr.mono (by decide)) (by rfl) T.m__law_draw T.F__law_draw.kp T.b__law_draw (q_acons (q_var 0) (q_acons q_int q_anil)))) q_anil))) q_anil))))))) q_anil))) q_anil)))))
    (qs_one (q_ifS (qt_truth (q_call G__law_below (prom0) (hr.mono (by decide)) (by rfl) T.m__law_below T.F__law_below.kp T.b__law_below (q_acons (q_var 3) (q_acons (q_tup (q_acons (q_callB call_abs oAbsP (by rfl) T.n_abs bb_abs (q_acons (q_ix (q_ix (q_var 2) (q_un un_neg oNegP q_int) (fun _ _ => rfl)) q_int (fun _ _ => rfl)) q_anil)) (q_acons (q_ix (q_ix (q_var 2) (q_un un_neg oNegP q_int) (fun _ _ => rfl)) q_int (fun _ _ => rfl)) q_anil))) q_anil)))) (qs_one (q_asg (q_var 3) (g_ix (q_var 2) (q_un un_neg oNegP q_int)))) qs_nil))))
    (qs_one (q_ret (q_callTy call_tuple_of oTupleP (by rfl) T.n_tuple bb_tuple (q_acons (q_var 2) q_anil))))))
theorem ok__law_page (T : Txt K mg) : FnOk P w K mg base CX0 4 T.f__law_page T.d__law_page P__law_page (sp0 bagK K F__law_page) := by
  have G__law_pick := ok__law_pick (P := P) (w := w) (base := base) T
  have G__law_draw := ok__law_draw (P := P) (w := w) (base := base) T
  have G__law_start := ok__law_start (P := P) (w := w) (base := base) T
  refine ok0 (N := N__law_page) T.F__law_page sc__law_page rfl fun cdv A outer s H E hr => ?_
  exact (qs_one (q_ret (q_tup (q_acons (q_call G__law_start (prom0) (hr.mono (by decide)) (by rfl) T.m__law_start T.F__law_start.kp T.b__law_start (q_acons (q_var 0) (q_acons (q_var 1) q_anil))) (q_acons (q_op op_sub oSubP (q_call G__law_draw (prom0) (hr.mono (by decide)) (by rfl) T.m__law_draw T.F__law_draw.kp T.b__law_draw (q_acons (q_var 0) (q_acons q_int q_anil))) q_int) (q_acons (q_op op_addX oAddP q_int (q_call G__law_draw (prom0) (hr.mono (by decide)) (by rfl) T.m__law_draw T.F__law_draw.kp T.b__law_draw (q_acons (q_var 0) (q_acons q_int q_anil)))) (q_acons (q_call G__law_draw (prom0) (hr.mono (by decide)) (by rfl) T.m__law_draw T.F__law_draw.kp T.b__law_draw (q_acons (q_var 0) (q_acons q_int q_anil))) (q_acons (q_call G__law_pick (promS) (hr.mono (by decide)) (by rfl) T.m__law_pick T.F__law_pick.kp T.b__law_pick (q_acons (q_var 0) (q_acons (q_lst (q_acons q_str (q_acons q_str (q_acons q_str q_anil)))) q_anil))) q_anil))))))))
theorem ok__law_page_of (T : Txt K mg) : FnOk P w K mg base CX0 5 T.f__law_page_of T.d__law_page_of P__law_page_of (sp0 bagK K F__law_page_of) := by
  have G__law_printed := ok__law_printed (P := P) (w := w) (base := base) T
  have G__law_at := ok__law_at (P := P) (w := w) (base := base) T
  refine ok0 (N := N__law_page_of) T.F__law_page_of sc__law_page_of rfl fun cdv A outer s H E hr => ?_
  exact (qs_one (q_ret (q_scope (q_callTy call_tuple_of oTupleP (by rfl) T.n_tuple bb_tuple (q_acons (q_lc rfl sc__law_page_of.nd (qi_range (by rfl) T.n_range (q_ix (q_var 0) q_int (fun _ _ => rfl)) (q_op op_addX oAddP (q_ix (q_var 0) q_int (fun _ _ => rfl)) (q_ix (q_var 0) q_int (fun _ _ => rfl)))) (blkOk_by (own := [("n", 2)]) (N := N__law_page_of) (sc := defScope s__law_page_of) (by decide +kernel)) rfl (fun _ _ _ _ _ => (gw_name (i := 2) (by decide) sc__law_page_of.nd rfl (Or.inl rfl))) (fun _ _ _ _ _ => qts_nil) (fun _ _ _ _ _ => (q_call G__law_printed (prom0) (hr.mono (by decide)) (by rfl) T.m__law_printed T.F__law_printed.kp T.b__law_printed (q_acons (q_call G__law_at (prom0) (hr.mono (by decide)) (by rfl) T.m__law_at T.F__law_at.kp T.b__law_at (q_acons (q_ix (q_var 0) q_int (fun _ _ => rfl)) (q_acons (q_var 1) (q_acons (q_var 2) q_anil)))) (q_acons (q_ix (q_var 0) q_int (fun _ _ => rfl)) (q_acons (q_ix (q_var 0) q_int (fun _ _ => rfl)) q_anil)))))) q_anil)))))
theorem ok__law_touching (T : Txt K mg) : FnOk P w K mg base CX0 4 T.f__law_touching T.d__law_touching P__law_touching (sp0 bagK K F__law_touching) := by
  have G__law_draw := ok__law_draw (P := P) (w := w) (base := base) T
  have G__law_fr := ok__law_fr (P := P) (w := w) (base := base) T
  have G__law_stripe := ok__law_stripe (P := P) (w := w) (base := base) T
  have G__law_minus := ok__law_minus (P := P) (w := w) (base := base) T
  have G__law_plus := ok__law_plus (P := P) (w := w) (base := base) T
  refine ok0 (N := N__law_touching) T.F__law_touching sc__law_touching rfl fun cdv A outer s H E hr => ?_
  exact (qs_cons (q_par (i := 2) (j := 3) rfl sc__law_touching.nd rfl rfl (by decide) rfl rfl (q_op op_sub oSubP (q_call G__law_draw (prom0) (hr.mono (by decide)) (by rfl) T.m__law_draw T.F__law_draw.kp T.b__law_draw (q_acons (q_var 0) (q_acons q_int q_anil))) q_int) (q_call G__law_fr (prom0) (hr.mono (by decide)) (by rfl) T.m__law_fr T.F__law_fr.kp T.b__law_fr (q_acons (q_op op_addX oAddP q_int (q_call G__law_draw (prom0) (hr.mono (by decide)) (by rfl) T.m__law_draw T.F__law_draw.kp T.b__law_draw (q_acons (q_var 0) (q_acons q_int q_anil)))) (q_acons q_int q_anil))) (by rfl))
    (qs_cons (q_set (i := 4) sc__law_touching.nd rfl (Or.inl rfl) (q_ix (q_call G__law_stripe (prom0) (hr.mono (by decide)) (by rfl) T.m__law_stripe T.F__law_stripe.kp T.b__law_stripe (q_acons (q_var 2) (q_acons q_int (q_acons (q_var 1) q_anil)))) (q_call G__law_draw (prom0) (hr.mono (by decide)) (by rfl) T.m__law_draw T.F__law_draw.kp T.b__law_draw (q_acons (q_var 0) (q_acons q_int q_anil))) (fun _ _ => rfl)))
    (qs_cons (q_set (i := 5) sc__law_touching.nd rfl (Or.inl rfl) (q_if (qt_cmp op_eq oEqP (q_call G__law_draw (prom0) (hr.mono (by decide)) (by rfl) T.m__law_draw T.F__law_draw.kp T.b__law_draw (q_acons (q_var 0) (q_acons q_int q_anil))) q_int (nomark _)) (q_call G__law_minus (prom0) (hr.mono (by decide)) (by rfl) T.m__law_minus T.F__law_minus.kp T.b__law_minus (q_acons (q_var 4) (q_acons (q_var 3) q_anil))) (q_call G__law_plus (prom0) (hr.mono (by decide)) (by rfl) T.m__law_plus T.F__law_plus.kp T.b__law_plus (q_acons (q_var 4) (q_acons (q_var 3) q_anil)))))
    (qs_cons (q_set (i := 6) sc__law_touching.nd rfl (Or.inl rfl) (q_if (qt_cmp op_eq oEqP (q_call G__law_draw (prom0) (hr.mono (by decide)) (by rfl) T.m__law_draw T.F__law_draw.kp T.b__law_draw (q_acons (q_var 0) (q_acons q_int q_anil))) q_int (nomark _)) (q_tup (q_acons (q_tup (q_acons (q_tup (q_acons q_int (q_acons q_int q_anil))) q_anil)) (q_acons (q_tup (q_acons (q_tup (q_acons q_int (q_acons q_int q_anil))) q_anil)) q_anil))) (q_tup (q_acons (q_tup q_anil) (q_acons (q_tup q_anil) q_anil)))))
    (qs_one (q_ret (q_tup (q_acons (q_tup (q_acons (q_op op_addX oAddP (q_tup (q_acons (q_var 5) q_anil)) (q_ix (q_var 6) q_int (fun _ _ => rfl))) (q_acons (q_op op_addX oAddP (q_tup (q_acons (q_var 3) q_anil)) (q_ix (q_var 6) q_int (fun _ _ => rfl))) q_anil))) (q_acons (q_op op_sub oSubP q_int (q_call G__law_draw (prom0) (hr.mono (by decide)) (by rfl) T.m__law_draw T.F__law_draw.kp T.b__law_draw (q_acons (q_var 0) (q_acons q_int q_anil)))) (q_acons q_int (q_acons q_int (q_acons (q_var 1) q_anil))))))))))))
theorem ok__law_is_told (T : Txt K mg) : FnOk P w K mg base CX0 9 T.f__law_is_told T.d__law_is_told P__law_is_told (sp0 bagK K F__law_is_told) := by
  have G__law_hand := ok__law_hand (P := P) (w := w) (base := base) T
  have G_page_of := ok_page_of (P := P) (w := w) (base := base) T
  have G__law_same := ok__law_same (P := P) (w := w) (base := base) T
  have G__law_page_of := ok__law_page_of (P := P) (w := w) (base := base) T
  have G__law_draw := ok__law_draw (P := P) (w := w) (base := base) T
  have G__law_at := ok__law_at (P := P) (w := w) (base := base) T
  have G__law_no_hand := ok__law_no_hand (P := P) (w := w) (base := base) T
  have G__law_far := ok__law_far (P := P) (w := w) (base := base) T
  have G__law_printed := ok__law_printed (P := P) (w := w) (base := base) T
  have G__law_minus := ok__law_minus (P := P) (w := w) (base := base) T
  have G__law_plus := ok__law_plus (P := P) (w := w) (base := base) T
  have G_can_print := ok_can_print (P := P) (w := w) (base := base) T
  refine ok0 (N := N__law_is_told) T.F__law_is_told sc__law_is_told rfl fun cdv A outer s H E hr => ?_
  exact (qs_cons (q_par3 (i := 3) (j := 4) (l := 5) rfl sc__law_is_told.nd rfl rfl rfl (by decide) (by decide) (by decide) rfl rfl rfl (q_acons (q_ix (q_var 1) q_int (fun _ _ => rfl)) (q_acons (q_ix (q_var 1) q_int (fun _ _ => rfl)) (q_acons (q_ix (q_var 1) q_int (fun _ _ => rfl)) q_anil))) (by rfl))
    (qs_cons (q_for PassesOwn.never rfl (qi_range1 (by rfl) T.n_range q_int) (g_name (i := 6) sc__law_is_told.nd rfl (Or.inl rfl))
    (qs_cons (q_set (i := 7) sc__law_is_told.nd rfl (Or.inl rfl) (q_call G__law_hand (prom0) (hr.mono (by decide)) (by rfl) T.m__law_hand T.F__law_hand.kp T.b__law_hand (q_acons (q_var 0) (q_acons (q_var 3) q_anil))))
    (qs_cons (q_set (i := 8) sc__law_is_told.nd rfl (Or.inl rfl) (q_if (qt_truth (q_var 2)) (q_callK0 (m := 2) G_page_of (prom0) (hr.mono (by decide)) (by rfl) T.m_page_of T.F_page_of.kp T.kb_page_of_0 rfl (q_kcons (q_var 7) (q_kcons (q_var 1) q_knil))) (q_call G_page_of (prom0) (hr.mono (by decide)) (by rfl) T.m_page_of T.F_page_of.kp T.b_page_of (q_acons (q_var 1) (q_acons (q_var 7) q_anil)))))
    (qs_one (q_ifS (qt_not (qt_truth (q_call G__law_same (prom0) (hr.mono (by decide)) (by rfl) T.m__law_same T.F__law_same.kp T.b__law_same (q_acons (q_var 8) (q_acons (q_call G__law_page_of (prom0) (hr.mono (by decide)) (by rfl) T.m__law_page_of T.F__law_page_of.kp T.b__law_page_of (q_acons (q_var 1) (q_acons (q_var 7) q_anil))) q_anil))))) (qs_one (q_ret q_bl)) qs_nil)))))
    (qs_cons (q_for PassesOwn.never rfl (qi_any (q_tup (q_acons (q_ix (q_var 1) q_int (fun _ _ => rfl)) (q_acons (q_op op_addX oAddP (q_ix (q_var 1) q_int (fun _ _ => rfl)) (q_call G__law_draw (prom0) (hr.mono (by decide)) (by rfl) T.m__law_draw T.F__law_draw.kp T.b__law_draw (q_acons (q_var 0) (q_acons (q_ix (q_var 1) q_int (fun _ _ => rfl)) q_anil)))) (q_acons (q_op op_sub oSubP (q_op op_addX oAddP (q_ix (q_var 1) q_int (fun _ _ => rfl)) (q_call G__law_draw (prom0) (hr.mono (by decide)) (by rfl) T.m__law_draw T.F__law_draw.kp T.b__law_draw (q_acons (q_var 0) (q_acons q_int q_anil)))) q_int) q_anil))))) (g_name (i := 9) sc__law_is_told.nd rfl (Or.inl rfl))
    (qs_cons (q_par (i := 10) (j := 11) rfl sc__law_is_told.nd rfl rfl (by decide) rfl rfl (q_call G__law_at (prom0) (hr.mono (by decide)) (by rfl) T.m__law_at T.F__law_at.kp T.b__law_at (q_acons (q_var 3) (q_acons (q_call G__law_no_hand (prom0) (hr.mono (by decide)) (by rfl) T.m__law_no_hand T.F__law_no_hand.kp T.b__law_no_hand (q_acons (q_var 3) q_anil)) (q_acons (q_var 9) q_anil)))) (q_call G__law_far (prom0) (hr.mono (by decide)) (by rfl) T.m__law_far T.F__law_far.kp T.b__law_far (q_acons (q_var 3) (q_acons (q_var 9) q_anil))) (by rfl))
    (qs_cons (q_par (i := 12) (j := 13) rfl sc__law_is_told.nd rfl rfl (by decide) rfl rfl (q_call G__law_printed (prom0) (hr.mono (by decide)) (by rfl) T.m__law_printed T.F__law_printed.kp T.b__law_printed (q_acons (q_call G__law_minus (prom0) (hr.mono (by decide)) (by rfl) T.m__law_minus T.F__law_minus.kp T.b__law_minus (q_acons (q_var 10) (q_acons (q_var 11) q_anil))) (q_acons (q_var 4) (q_acons (q_var 5) q_anil)))) (q_call G__law_printed (prom0) (hr.mono (by decide)) (by rfl) T.m__law_printed T.F__law_printed.kp T.b__law_printed (q_acons (q_call G__law_plus (prom0) (hr.mono (by decide)) (by rfl) T.m__law_plus T.F__law_plus.kp T.b__law_plus (q_acons (q_var 10) (q_acons (q_var 11) q_anil))) (q_acons (q_var 4) (q_acons (q_var 5) q_anil)))) (by rfl))
    (qs_cons (q_ifS (qt_cmp op_gt oGtP (q_op op_sub oSubP (q_var 13) (q_var 12)) q_int (nomark _)) (qs_one q_cont) qs_nil)
    (qs_cons (q_set (i := 8) sc__law_is_told.nd rfl (Or.inl rfl) (q_if (qt_truth (q_var 2)) (q_callK0 (m := 2) G_can_print (prom0) (hr.mono (by decide)) (by rfl) T.m_can_print T.F_can_print.kp T.kb_can_print_0 rfl (q_kcons (q_var 9) (q_kcons (q_var 1) q_knil))) (q_call G_can_print (prom0) (hr.mono (by decide)) (by rfl) T.m_can_print T.F_can_print.kp T.b_can_print (q_acons (q_var 1) (q_acons (q_var 9) q_anil)))))
    (qs_cons (q_ifS (qt_not (qt_truth (q_call G__law_same (prom0) (hr.mono (by decide)) (by rfl) T.m__law_same T.F__law_same.kp T.b__law_same (q_acons (q_var 8) (q_acons (q_tupR rfl (by rfl) T.n_tuple (qr_two (by rfl) T.n_range (q_var 12) (q_op op_addX oAddP (q_var 13) q_int))) q_anil))))) (qs_one (q_ret q_bl)) qs_nil)
    (qs_one (q_ifS (qt_cmp op_notIn_seq oNotInP (q_call G__law_printed (prom0) (hr.mono (by decide)) (by rfl) T.m__law_printed T.F__law_printed.kp T.b__law_printed (q_acons (q_call G__law_at (prom0) (hr.mono (by decide)) (by rfl) T.m__law_at T.F__law_at.kp T.b__law_at (q_acons (q_var 3) (q_acons (q_call G__law_hand (prom0) (hr.mono (by decide)) (by rfl) T.m__law_hand T.F__law_hand.kp T.b__law_hand (q_acons (q_var 0) (q_acons (q_var 3) q_anil))) (q_acons (q_var 9) q_anil)))) (q_acons (q_var 4) (q_acons (q_var 5) q_anil)))) (q_var 8) (by rfl)) (qs_one (q_ret q_bl)) qs_nil))))))))
    (qs_one (q_ret q_bl)))))
theorem ok_law_body (T : Txt K mg) (cdv : Value) (A : Around) (outer : List PySem.Env) (s : Shared) (H : Hp) (E : XK) (hr : Room 9 (A.deeper (envOfC "law" (defScope s_law) s.heap.objs.size T.f_law cdv))) : QSs bagK (cxOf CX0 P w K mg base N_law "law" (defScope s_law) T.f_law cdv A outer s H E).nox ((defBody s_law).drop 1) B_law := by
  have G__law_page := ok__law_page (P := P) (w := w) (base := base) T
  have G__law_touching := ok__law_touching (P := P) (w := w) (base := base) T
  have G__law_pick := ok__law_pick (P := P) (w := w) (base := base) T
  have G__law_is_told := ok__law_is_told (P := P) (w := w) (base := base) T
  exact (qs_cons (q_for PassesOwn.never rfl (qi_range1 (by rfl) T.n_range q_int) (g_name (i := 2) sc_law.nd rfl (Or.inl rfl))
    (qs_cons (q_set (i := 3) sc_law.nd rfl (Or.inl rfl) (q_if (qt_cmp op_lt oLtP (q_var 2) q_int (nomark _)) (q_call G__law_page (prom0) (hr.mono (by decide)) (by rfl) T.m__law_page T.F__law_page.kp T.b__law_page (q_acons (q_var 1) (q_acons q_int q_anil))) (q_call G__law_touching (prom0) (hr.mono (by decide)) (by rfl) T.m__law_touching T.F__law_touching.kp T.b__law_touching (q_acons (q_var 1) (q_acons (q_call G__law_pick (promS) (hr.mono (by decide)) (by rfl) T.m__law_pick T.F__law_pick.kp T.b__law_pick (q_acons (q_var 1) (q_acons (q_lst (q_acons q_str (q_acons q_str (q_acons q_str q_anil)))) q_anil))) q_anil)))))
    (qs_one (q_ifS (qt_not (qt_truth (q_call G__law_is_told (prom0) (hr.mono (by decide)) (by rfl) T.m__law_is_told T.F__law_is_told.kp T.b__law_is_told (q_acons (q_var 1) (q_acons (q_var 3) (q_acons (q_cmp op_eq oEqP (q_var 2) q_int (nomark _)) q_anil)))))) (qs_one (q_ret q_bl)) qs_nil))))
    (qs_one (q_ret q_bl)))
end
def txt_mk {K : PySem.W.Frag} {h : Heap} {mg : Str → Option Value} (X : K.In h) (G : h.Ns mainGlobals mg)
    {f_0 : Addr} {oc_0 kV_0 dc_0 pm_0 cd_0 ct_0 : Value} {od_0 an_0 : Option Addr} {sl_0 : Array (Option Value)}
    (a_0 : PySem.W.nsIn K mainGlobals "frac" = some (some (.ref f_0))) (l_0 : K.lookup f_0 = some ⟨oc_0, od_0, .func (PySem.W.fnOf "frac" "frac" (defArgs s_frac) (defBody s_frac) (defScope s_frac) .none kV_0 dc_0 pm_0 an_0 cd_0 ct_0), sl_0⟩) (c_0 : PySem.W.codeIn K cd_0 "frac" = true) (k_0 : PySem.W.keepIn K (.ref f_0) = true)
    {f_1 : Addr} {oc_1 kV_1 dc_1 pm_1 cd_1 ct_1 : Value} {od_1 an_1 : Option Addr} {sl_1 : Array (Option Value)}
    (a_1 : PySem.W.nsIn K mainGlobals "whole" = some (some (.ref f_1))) (l_1 : K.lookup f_1 = some ⟨oc_1, od_1, .func (PySem.W.fnOf "whole" "whole" (defArgs s_whole) (defBody s_whole) (defScope s_whole) .none kV_1 dc_1 pm_1 an_1 cd_1 ct_1), sl_1⟩) (c_1 : PySem.W.codeIn K cd_1 "whole" = true) (k_1 : PySem.W.keepIn K (.ref f_1) = true)
    {f_2 : Addr} {oc_2 kV_2 dc_2 pm_2 cd_2 ct_2 : Value} {od_2 an_2 : Option Addr} {sl_2 : Array (Option Value)}
    (a_2 : PySem.W.nsIn K mainGlobals "plus" = some (some (.ref f_2))) (l_2 : K.lookup f_2 = some ⟨oc_2, od_2, .func (PySem.W.fnOf "plus" "plus" (defArgs s_plus) (defBody s_plus) (defScope s_plus) .none kV_2 dc_2 pm_2 an_2 cd_2 ct_2), sl_2⟩) (c_2 : PySem.W.codeIn K cd_2 "plus" = true) (k_2 : PySem.W.keepIn K (.ref f_2) = true)
    {f_3 : Addr} {oc_3 kV_3 dc_3 pm_3 cd_3 ct_3 : Value} {od_3 an_3 : Option Addr} {sl_3 : Array (Option Value)}
    (a_3 : PySem.W.nsIn K mainGlobals "minus" = some (some (.ref f_3))) (l_3 : K.lookup f_3 = some ⟨oc_3, od_3, .func (PySem.W.fnOf "minus" "minus" (defArgs s_minus) (defBody s_minus) (defScope s_minus) .none kV_3 dc_3 pm_3 an_3 cd_3 ct_3), sl_3⟩) (c_3 : PySem.W.codeIn K cd_3 "minus" = true) (k_3 : PySem.W.keepIn K (.ref f_3) = true)
    {f_4 : Addr} {oc_4 kV_4 dc_4 pm_4 cd_4 ct_4 : Value} {od_4 an_4 : Option Addr} {sl_4 : Array (Option Value)}
    (a_4 : PySem.W.nsIn K mainGlobals "times" = some (some (.ref f_4))) (l_4 : K.lookup f_4 = some ⟨oc_4, od_4, .func (PySem.W.fnOf "times" "times" (defArgs s_times) (defBody s_times) (defScope s_times) .none kV_4 dc_4 pm_4 an_4 cd_4 ct_4), sl_4⟩) (c_4 : PySem.W.codeIn K cd_4 "times" = true) (k_4 : PySem.W.keepIn K (.ref f_4) = true)
    {f_5 : Addr} {oc_5 kV_5 dc_5 pm_5 cd_5 ct_5 : Value} {od_5 an_5 : Option Addr} {sl_5 : Array (Option Value)}
    (a_5 : PySem.W.nsIn K mainGlobals "floor_of" = some (some (.ref f_5))) (l_5 : K.lookup f_5 = some ⟨oc_5, od_5, .func (PySem.W.fnOf "floor_of" "floor_of" (defArgs s_floor_of) (defBody s_floor_of) (defScope s_floor_of) .none kV_5 dc_5 pm_5 an_5 cd_5 ct_5), sl_5⟩) (c_5 : PySem.W.codeIn K cd_5 "floor_of" = true) (k_5 : PySem.W.keepIn K (.ref f_5) = true)
    {f_6 : Addr} {oc_6 kV_6 dc_6 pm_6 cd_6 ct_6 : Value} {od_6 an_6 : Option Addr} {sl_6 : Array (Option Value)}
    (a_6 : PySem.W.nsIn K mainGlobals "total_of" = some (some (.ref f_6))) (l_6 : K.lookup f_6 = some ⟨oc_6, od_6, .func (PySem.W.fnOf "total_of" "total_of" (defArgs s_total_of) (defBody s_total_of) (defScope s_total_of) .none kV_6 dc_6 pm_6 an_6 cd_6 ct_6), sl_6⟩) (c_6 : PySem.W.codeIn K cd_6 "total_of" = true) (k_6 : PySem.W.keepIn K (.ref f_6) = true)
    {f_7 : Addr} {oc_7 kV_7 dc_7 pm_7 cd_7 ct_7 : Value} {od_7 an_7 : Option Addr} {sl_7 : Array (Option Value)}
    (a_7 : PySem.W.nsIn K mainGlobals "product_sum" = some (some (.ref f_7))) (l_7 : K.lookup f_7 = some ⟨oc_7, od_7, .func (PySem.W.fnOf "product_sum" "product_sum" (defArgs s_product_sum) (defBody s_product_sum) (defScope s_product_sum) .none kV_7 dc_7 pm_7 an_7 cd_7 ct_7), sl_7⟩) (c_7 : PySem.W.codeIn K cd_7 "product_sum" = true) (k_7 : PySem.W.keepIn K (.ref f_7) = true)
    {f_8 : Addr} {oc_8 kV_8 dc_8 pm_8 cd_8 ct_8 : Value} {od_8 an_8 : Option Addr} {sl_8 : Array (Option Value)}
    (a_8 : PySem.W.nsIn K mainGlobals "tens" = some (some (.ref f_8))) (l_8 : K.lookup f_8 = some ⟨oc_8, od_8, .func (PySem.W.fnOf "tens" "tens" (defArgs s_tens) (defBody s_tens) (defScope s_tens) .none kV_8 dc_8 pm_8 an_8 cd_8 ct_8), sl_8⟩) (c_8 : PySem.W.codeIn K cd_8 "tens" = true) (k_8 : PySem.W.keepIn K (.ref f_8) = true)
    {f_9 : Addr} {oc_9 kV_9 dc_9 pm_9 cd_9 ct_9 : Value} {od_9 an_9 : Option Addr} {sl_9 : Array (Option Value)}
    (a_9 : PySem.W.nsIn K mainGlobals "choose" = some (some (.ref f_9))) (l_9 : K.lookup f_9 = some ⟨oc_9, od_9, .func (PySem.W.fnOf "choose" "choose" (defArgs s_choose) (defBody s_choose) (defScope s_choose) .none kV_9 dc_9 pm_9 an_9 cd_9 ct_9), sl_9⟩) (c_9 : PySem.W.codeIn K cd_9 "choose" = true) (k_9 : PySem.W.keepIn K (.ref f_9) = true)
    {f_10 : Addr} {oc_10 kV_10 dc_10 pm_10 cd_10 ct_10 : Value} {od_10 an_10 : Option Addr} {sl_10 : Array (Option Value)}
    (a_10 : PySem.W.nsIn K mainGlobals "printed" = some (some (.ref f_10))) (l_10 : K.lookup f_10 = some ⟨oc_10, od_10, .func (PySem.W.fnOf "printed" "printed" (defArgs s_printed) (defBody s_printed) (defScope s_printed) .none kV_10 dc_10 pm_10 an_10 cd_10 ct_10), sl_10⟩) (c_10 : PySem.W.codeIn K cd_10 "printed" = true) (k_10 : PySem.W.keepIn K (.ref f_10) = true)
    {f_11 : Addr} {oc_11 kV_11 dc_11 pm_11 cd_11 ct_11 : Value} {od_11 an_11 : Option Addr} {sl_11 : Array (Option Value)}
    (a_11 : PySem.W.nsIn K mainGlobals "choices_at" = some (some (.ref f_11))) (l_11 : K.lookup f_11 = some ⟨oc_11, od_11, .func (PySem.W.fnOf "choices_at" "choices_at" (defArgs s_choices_at) (defBody s_choices_at) (defScope s_choices_at) .none kV_11 dc_11 pm_11 an_11 cd_11 ct_11), sl_11⟩) (c_11 : PySem.W.codeIn K cd_11 "choices_at" = true) (k_11 : PySem.W.keepIn K (.ref f_11) = true)
    {f_12 : Addr} {oc_12 kV_12 dc_12 pm_12 cd_12 ct_12 : Value} {od_12 an_12 : Option Addr} {sl_12 : Array (Option Value)}
    (a_12 : PySem.W.nsIn K mainGlobals "slips_summed" = some (some (.ref f_12))) (l_12 : K.lookup f_12 = some ⟨oc_12, od_12, .func (PySem.W.fnOf "slips_summed" "slips_summed" (defArgs s_slips_summed) (defBody s_slips_summed) (defScope s_slips_summed) .none kV_12 dc_12 pm_12 an_12 cd_12 ct_12), sl_12⟩) (c_12 : PySem.W.codeIn K cd_12 "slips_summed" = true) (k_12 : PySem.W.keepIn K (.ref f_12) = true)
    {f_13 : Addr} {oc_13 kV_13 dc_13 pm_13 cd_13 ct_13 : Value} {od_13 an_13 : Option Addr} {sl_13 : Array (Option Value)}
    (a_13 : PySem.W.nsIn K mainGlobals "plain_line" = some (some (.ref f_13))) (l_13 : K.lookup f_13 = some ⟨oc_13, od_13, .func (PySem.W.fnOf "plain_line" "plain_line" (defArgs s_plain_line) (defBody s_plain_line) (defScope s_plain_line) .none kV_13 dc_13 pm_13 an_13 cd_13 ct_13), sl_13⟩) (c_13 : PySem.W.codeIn K cd_13 "plain_line" = true) (k_13 : PySem.W.keepIn K (.ref f_13) = true)
    {f_14 : Addr} {oc_14 kV_14 dc_14 pm_14 cd_14 ct_14 : Value} {od_14 an_14 : Option Addr} {sl_14 : Array (Option Value)}
    (a_14 : PySem.W.nsIn K mainGlobals "columns_at" = some (some (.ref f_14))) (l_14 : K.lookup f_14 = some ⟨oc_14, od_14, .func (PySem.W.fnOf "columns_at" "columns_at" (defArgs s_columns_at) (defBody s_columns_at) (defScope s_columns_at) .none kV_14 dc_14 pm_14 an_14 cd_14 ct_14), sl_14⟩) (c_14 : PySem.W.codeIn K cd_14 "columns_at" = true) (k_14 : PySem.W.keepIn K (.ref f_14) = true)
    {f_15 : Addr} {oc_15 kV_15 dc_15 pm_15 cd_15 ct_15 : Value} {od_15 an_15 : Option Addr} {sl_15 : Array (Option Value)}
    (a_15 : PySem.W.nsIn K mainGlobals "turned_on" = some (some (.ref f_15))) (l_15 : K.lookup f_15 = some ⟨oc_15, od_15, .func (PySem.W.fnOf "turned_on" "turned_on" (defArgs s_turned_on) (defBody s_turned_on) (defScope s_turned_on) .none kV_15 dc_15 pm_15 an_15 cd_15 ct_15), sl_15⟩) (c_15 : PySem.W.codeIn K cd_15 "turned_on" = true) (k_15 : PySem.W.keepIn K (.ref f_15) = true)
    {f_16 : Addr} {oc_16 kV_16 dc_16 pm_16 cd_16 ct_16 : Value} {od_16 an_16 : Option Addr} {sl_16 : Array (Option Value)}
    (a_16 : PySem.W.nsIn K mainGlobals "rows_turned" = some (some (.ref f_16))) (l_16 : K.lookup f_16 = some ⟨oc_16, od_16, .func (PySem.W.fnOf "rows_turned" "rows_turned" (defArgs s_rows_turned) (defBody s_rows_turned) (defScope s_rows_turned) .none kV_16 dc_16 pm_16 an_16 cd_16 ct_16), sl_16⟩) (c_16 : PySem.W.codeIn K cd_16 "rows_turned" = true) (k_16 : PySem.W.keepIn K (.ref f_16) = true)
    {f_17 : Addr} {oc_17 kV_17 dc_17 pm_17 cd_17 ct_17 : Value} {od_17 an_17 : Option Addr} {sl_17 : Array (Option Value)}
    (a_17 : PySem.W.nsIn K mainGlobals "reach_at" = some (some (.ref f_17))) (l_17 : K.lookup f_17 = some ⟨oc_17, od_17, .func (PySem.W.fnOf "reach_at" "reach_at" (defArgs s_reach_at) (defBody s_reach_at) (defScope s_reach_at) .none kV_17 dc_17 pm_17 an_17 cd_17 ct_17), sl_17⟩) (c_17 : PySem.W.codeIn K cd_17 "reach_at" = true) (k_17 : PySem.W.keepIn K (.ref f_17) = true)
    {f_18 : Addr} {oc_18 kV_18 dc_18 pm_18 cd_18 ct_18 : Value} {od_18 an_18 : Option Addr} {sl_18 : Array (Option Value)}
    (a_18 : PySem.W.nsIn K mainGlobals "stretch" = some (some (.ref f_18))) (l_18 : K.lookup f_18 = some ⟨oc_18, od_18, .func (PySem.W.fnOf "stretch" "stretch" (defArgs s_stretch) (defBody s_stretch) (defScope s_stretch) .none kV_18 dc_18 pm_18 an_18 cd_18 ct_18), sl_18⟩) (c_18 : PySem.W.codeIn K cd_18 "stretch" = true) (k_18 : PySem.W.keepIn K (.ref f_18) = true)
    {f_19 : Addr} {oc_19 kV_19 dc_19 pm_19 cd_19 ct_19 : Value} {od_19 an_19 : Option Addr} {sl_19 : Array (Option Value)}
    (a_19 : PySem.W.nsIn K mainGlobals "page_of" = some (some (.ref f_19))) (l_19 : K.lookup f_19 = some ⟨oc_19, od_19, .func (PySem.W.fnOf "page_of" "page_of" (defArgs s_page_of) (defBody s_page_of) (defScope s_page_of) .none kV_19 dc_19 pm_19 an_19 cd_19 ct_19), sl_19⟩) (c_19 : PySem.W.codeIn K cd_19 "page_of" = true) (k_19 : PySem.W.keepIn K (.ref f_19) = true)
    {f_20 : Addr} {oc_20 kV_20 dc_20 pm_20 cd_20 ct_20 : Value} {od_20 an_20 : Option Addr} {sl_20 : Array (Option Value)}
    (a_20 : PySem.W.nsIn K mainGlobals "print_ends" = some (some (.ref f_20))) (l_20 : K.lookup f_20 = some ⟨oc_20, od_20, .func (PySem.W.fnOf "print_ends" "print_ends" (defArgs s_print_ends) (defBody s_print_ends) (defScope s_print_ends) .none kV_20 dc_20 pm_20 an_20 cd_20 ct_20), sl_20⟩) (c_20 : PySem.W.codeIn K cd_20 "print_ends" = true) (k_20 : PySem.W.keepIn K (.ref f_20) = true)
    {f_21 : Addr} {oc_21 kV_21 dc_21 pm_21 cd_21 ct_21 : Value} {od_21 an_21 : Option Addr} {sl_21 : Array (Option Value)}
    (a_21 : PySem.W.nsIn K mainGlobals "can_print" = some (some (.ref f_21))) (l_21 : K.lookup f_21 = some ⟨oc_21, od_21, .func (PySem.W.fnOf "can_print" "can_print" (defArgs s_can_print) (defBody s_can_print) (defScope s_can_print) .none kV_21 dc_21 pm_21 an_21 cd_21 ct_21), sl_21⟩) (c_21 : PySem.W.codeIn K cd_21 "can_print" = true) (k_21 : PySem.W.keepIn K (.ref f_21) = true)
    {f_22 : Addr} {oc_22 kV_22 dc_22 pm_22 cd_22 ct_22 : Value} {od_22 an_22 : Option Addr} {sl_22 : Array (Option Value)}
    (a_22 : PySem.W.nsIn K mainGlobals "_law_bag" = some (some (.ref f_22))) (l_22 : K.lookup f_22 = some ⟨oc_22, od_22, .func (PySem.W.fnOf "_law_bag" "_law_bag" (defArgs s__law_bag) (defBody s__law_bag) (defScope s__law_bag) .none kV_22 dc_22 pm_22 an_22 cd_22 ct_22), sl_22⟩) (c_22 : PySem.W.codeIn K cd_22 "_law_bag" = true) (k_22 : PySem.W.keepIn K (.ref f_22) = true)
    {f_23 : Addr} {oc_23 kV_23 dc_23 pm_23 cd_23 ct_23 : Value} {od_23 an_23 : Option Addr} {sl_23 : Array (Option Value)}
    (a_23 : PySem.W.nsIn K mainGlobals "_law_draw" = some (some (.ref f_23))) (l_23 : K.lookup f_23 = some ⟨oc_23, od_23, .func (PySem.W.fnOf "_law_draw" "_law_draw" (defArgs s__law_draw) (defBody s__law_draw) (defScope s__law_draw) .none kV_23 dc_23 pm_23 an_23 cd_23 ct_23), sl_23⟩) (c_23 : PySem.W.codeIn K cd_23 "_law_draw" = true) (k_23 : PySem.W.keepIn K (.ref f_23) = true)
    {f_24 : Addr} {oc_24 kV_24 dc_24 pm_24 cd_24 ct_24 : Value} {od_24 an_24 : Option Addr} {sl_24 : Array (Option Value)}
    (a_24 : PySem.W.nsIn K mainGlobals "_law_pick" = some (some (.ref f_24))) (l_24 : K.lookup f_24 = some ⟨oc_24, od_24, .func (PySem.W.fnOf "_law_pick" "_law_pick" (defArgs s__law_pick) (defBody s__law_pick) (defScope s__law_pick) .none kV_24 dc_24 pm_24 an_24 cd_24 ct_24), sl_24⟩) (c_24 : PySem.W.codeIn K cd_24 "_law_pick" = true) (k_24 : PySem.W.keepIn K (.ref f_24) = true)
    {f_25 : Addr} {oc_25 kV_25 dc_25 pm_25 cd_25 ct_25 : Value} {od_25 an_25 : Option Addr} {sl_25 : Array (Option Value)}
    (a_25 : PySem.W.nsIn K mainGlobals "_law_same" = some (some (.ref f_25))) (l_25 : K.lookup f_25 = some ⟨oc_25, od_25, .func (PySem.W.fnOf "_law_same" "_law_same" (defArgs s__law_same) (defBody s__law_same) (defScope s__law_same) .none kV_25 dc_25 pm_25 an_25 cd_25 ct_25), sl_25⟩) (c_25 : PySem.W.codeIn K cd_25 "_law_same" = true) (k_25 : PySem.W.keepIn K (.ref f_25) = true)
    {f_26 : Addr} {oc_26 kV_26 dc_26 pm_26 cd_26 ct_26 : Value} {od_26 an_26 : Option Addr} {sl_26 : Array (Option Value)}
    (a_26 : PySem.W.nsIn K mainGlobals "_law_gcd" = some (some (.ref f_26))) (l_26 : K.lookup f_26 = some ⟨oc_26, od_26, .func (PySem.W.fnOf "_law_gcd" "_law_gcd" (defArgs s__law_gcd) (defBody s__law_gcd) (defScope s__law_gcd) .none kV_26 dc_26 pm_26 an_26 cd_26 ct_26), sl_26⟩) (c_26 : PySem.W.codeIn K cd_26 "_law_gcd" = true) (k_26 : PySem.W.keepIn K (.ref f_26) = true)
    {f_27 : Addr} {oc_27 kV_27 dc_27 pm_27 cd_27 ct_27 : Value} {od_27 an_27 : Option Addr} {sl_27 : Array (Option Value)}
    (a_27 : PySem.W.nsIn K mainGlobals "_law_fr" = some (some (.ref f_27))) (l_27 : K.lookup f_27 = some ⟨oc_27, od_27, .func (PySem.W.fnOf "_law_fr" "_law_fr" (defArgs s__law_fr) (defBody s__law_fr) (defScope s__law_fr) .none kV_27 dc_27 pm_27 an_27 cd_27 ct_27), sl_27⟩) (c_27 : PySem.W.codeIn K cd_27 "_law_fr" = true) (k_27 : PySem.W.keepIn K (.ref f_27) = true)
    {f_28 : Addr} {oc_28 kV_28 dc_28 pm_28 cd_28 ct_28 : Value} {od_28 an_28 : Option Addr} {sl_28 : Array (Option Value)}
    (a_28 : PySem.W.nsIn K mainGlobals "_law_plus" = some (some (.ref f_28))) (l_28 : K.lookup f_28 = some ⟨oc_28, od_28, .func (PySem.W.fnOf "_law_plus" "_law_plus" (defArgs s__law_plus) (defBody s__law_plus) (defScope s__law_plus) .none kV_28 dc_28 pm_28 an_28 cd_28 ct_28), sl_28⟩) (c_28 : PySem.W.codeIn K cd_28 "_law_plus" = true) (k_28 : PySem.W.keepIn K (.ref f_28) = true)
    {f_29 : Addr} {oc_29 kV_29 dc_29 pm_29 cd_29 ct_29 : Value} {od_29 an_29 : Option Addr} {sl_29 : Array (Option Value)}
    (a_29 : PySem.W.nsIn K mainGlobals "_law_minus" = some (some (.ref f_29))) (l_29 : K.lookup f_29 = some ⟨oc_29, od_29, .func (PySem.W.fnOf "_law_minus" "_law_minus" (defArgs s__law_minus) (defBody s__law_minus) (defScope s__law_minus) .none kV_29 dc_29 pm_29 an_29 cd_29 ct_29), sl_29⟩) (c_29 : PySem.W.codeIn K cd_29 "_law_minus" = true) (k_29 : PySem.W.keepIn K (.ref f_29) = true)
    {f_30 : Addr} {oc_30 kV_30 dc_30 pm_30 cd_30 ct_30 : Value} {od_30 an_30 : Option Addr} {sl_30 : Array (Option Value)}
    (a_30 : PySem.W.nsIn K mainGlobals "_law_times" = some (some (.ref f_30))) (l_30 : K.lookup f_30 = some ⟨oc_30, od_30, .func (PySem.W.fnOf "_law_times" "_law_times" (defArgs s__law_times) (defBody s__law_times) (defScope s__law_times) .none kV_30 dc_30 pm_30 an_30 cd_30 ct_30), sl_30⟩) (c_30 : PySem.W.codeIn K cd_30 "_law_times" = true) (k_30 : PySem.W.keepIn K (.ref f_30) = true)
    {f_31 : Addr} {oc_31 kV_31 dc_31 pm_31 cd_31 ct_31 : Value} {od_31 an_31 : Option Addr} {sl_31 : Array (Option Value)}
    (a_31 : PySem.W.nsIn K mainGlobals "_law_below" = some (some (.ref f_31))) (l_31 : K.lookup f_31 = some ⟨oc_31, od_31, .func (PySem.W.fnOf "_law_below" "_law_below" (defArgs s__law_below) (defBody s__law_below) (defScope s__law_below) .none kV_31 dc_31 pm_31 an_31 cd_31 ct_31), sl_31⟩) (c_31 : PySem.W.codeIn K cd_31 "_law_below" = true) (k_31 : PySem.W.keepIn K (.ref f_31) = true)
    {f_32 : Addr} {oc_32 kV_32 dc_32 pm_32 cd_32 ct_32 : Value} {od_32 an_32 : Option Addr} {sl_32 : Array (Option Value)}
    (a_32 : PySem.W.nsIn K mainGlobals "_law_ten" = some (some (.ref f_32))) (l_32 : K.lookup f_32 = some ⟨oc_32, od_32, .func (PySem.W.fnOf "_law_ten" "_law_ten" (defArgs s__law_ten) (defBody s__law_ten) (defScope s__law_ten) .none kV_32 dc_32 pm_32 an_32 cd_32 ct_32), sl_32⟩) (c_32 : PySem.W.codeIn K cd_32 "_law_ten" = true) (k_32 : PySem.W.keepIn K (.ref f_32) = true)
    {f_33 : Addr} {oc_33 kV_33 dc_33 pm_33 cd_33 ct_33 : Value} {od_33 an_33 : Option Addr} {sl_33 : Array (Option Value)}
    (a_33 : PySem.W.nsIn K mainGlobals "_law_printed" = some (some (.ref f_33))) (l_33 : K.lookup f_33 = some ⟨oc_33, od_33, .func (PySem.W.fnOf "_law_printed" "_law_printed" (defArgs s__law_printed) (defBody s__law_printed) (defScope s__law_printed) .none kV_33 dc_33 pm_33 an_33 cd_33 ct_33), sl_33⟩) (c_33 : PySem.W.codeIn K cd_33 "_law_printed" = true) (k_33 : PySem.W.keepIn K (.ref f_33) = true)
    {f_34 : Addr} {oc_34 kV_34 dc_34 pm_34 cd_34 ct_34 : Value} {od_34 an_34 : Option Addr} {sl_34 : Array (Option Value)}
    (a_34 : PySem.W.nsIn K mainGlobals "_law_stripe" = some (some (.ref f_34))) (l_34 : K.lookup f_34 = some ⟨oc_34, od_34, .func (PySem.W.fnOf "_law_stripe" "_law_stripe" (defArgs s__law_stripe) (defBody s__law_stripe) (defScope s__law_stripe) .none kV_34 dc_34 pm_34 an_34 cd_34 ct_34), sl_34⟩) (c_34 : PySem.W.codeIn K cd_34 "_law_stripe" = true) (k_34 : PySem.W.keepIn K (.ref f_34) = true)
    {f_35 : Addr} {oc_35 kV_35 dc_35 pm_35 cd_35 ct_35 : Value} {od_35 an_35 : Option Addr} {sl_35 : Array (Option Value)}
    (a_35 : PySem.W.nsIn K mainGlobals "_law_choose" = some (some (.ref f_35))) (l_35 : K.lookup f_35 = some ⟨oc_35, od_35, .func (PySem.W.fnOf "_law_choose" "_law_choose" (defArgs s__law_choose) (defBody s__law_choose) (defScope s__law_choose) .none kV_35 dc_35 pm_35 an_35 cd_35 ct_35), sl_35⟩) (c_35 : PySem.W.codeIn K cd_35 "_law_choose" = true) (k_35 : PySem.W.keepIn K (.ref f_35) = true)
    {f_36 : Addr} {oc_36 kV_36 dc_36 pm_36 cd_36 ct_36 : Value} {od_36 an_36 : Option Addr} {sl_36 : Array (Option Value)}
    (a_36 : PySem.W.nsIn K mainGlobals "_law_at" = some (some (.ref f_36))) (l_36 : K.lookup f_36 = some ⟨oc_36, od_36, .func (PySem.W.fnOf "_law_at" "_law_at" (defArgs s__law_at) (defBody s__law_at) (defScope s__law_at) .none kV_36 dc_36 pm_36 an_36 cd_36 ct_36), sl_36⟩) (c_36 : PySem.W.codeIn K cd_36 "_law_at" = true) (k_36 : PySem.W.keepIn K (.ref f_36) = true)
    {f_37 : Addr} {oc_37 kV_37 dc_37 pm_37 cd_37 ct_37 : Value} {od_37 an_37 : Option Addr} {sl_37 : Array (Option Value)}
    (a_37 : PySem.W.nsIn K mainGlobals "_law_no_hand" = some (some (.ref f_37))) (l_37 : K.lookup f_37 = some ⟨oc_37, od_37, .func (PySem.W.fnOf "_law_no_hand" "_law_no_hand" (defArgs s__law_no_hand) (defBody s__law_no_hand) (defScope s__law_no_hand) .none kV_37 dc_37 pm_37 an_37 cd_37 ct_37), sl_37⟩) (c_37 : PySem.W.codeIn K cd_37 "_law_no_hand" = true) (k_37 : PySem.W.keepIn K (.ref f_37) = true)
    {f_38 : Addr} {oc_38 kV_38 dc_38 pm_38 cd_38 ct_38 : Value} {od_38 an_38 : Option Addr} {sl_38 : Array (Option Value)}
    (a_38 : PySem.W.nsIn K mainGlobals "_law_far" = some (some (.ref f_38))) (l_38 : K.lookup f_38 = some ⟨oc_38, od_38, .func (PySem.W.fnOf "_law_far" "_law_far" (defArgs s__law_far) (defBody s__law_far) (defScope s__law_far) .none kV_38 dc_38 pm_38 an_38 cd_38 ct_38), sl_38⟩) (c_38 : PySem.W.codeIn K cd_38 "_law_far" = true) (k_38 : PySem.W.keepIn K (.ref f_38) = true)
    {f_39 : Addr} {oc_39 kV_39 dc_39 pm_39 cd_39 ct_39 : Value} {od_39 an_39 : Option Addr} {sl_39 : Array (Option Value)}
    (a_39 : PySem.W.nsIn K mainGlobals "_law_start" = some (some (.ref f_39))) (l_39 : K.lookup f_39 = some ⟨oc_39, od_39, .func (PySem.W.fnOf "_law_start" "_law_start" (defArgs s__law_start) (defBody s__law_start) (defScope s__law_start) .none kV_39 dc_39 pm_39 an_39 cd_39 ct_39), sl_39⟩) (c_39 : PySem.W.codeIn K cd_39 "_law_start" = true) (k_39 : PySem.W.keepIn K (.ref f_39) = true)
    {f_40 : Addr} {oc_40 kV_40 dc_40 pm_40 cd_40 ct_40 : Value} {od_40 an_40 : Option Addr} {sl_40 : Array (Option Value)}
    (a_40 : PySem.W.nsIn K mainGlobals "_law_hand" = some (some (.ref f_40))) (l_40 : K.lookup f_40 = some ⟨oc_40, od_40, .func (PySem.W.fnOf "_law_hand" "_law_hand" (defArgs s__law_hand) (defBody s__law_hand) (defScope s__law_hand) .none kV_40 dc_40 pm_40 an_40 cd_40 ct_40), sl_40⟩) (c_40 : PySem.W.codeIn K cd_40 "_law_hand" = true) (k_40 : PySem.W.keepIn K (.ref f_40) = true)
    {f_41 : Addr} {oc_41 kV_41 dc_41 pm_41 cd_41 ct_41 : Value} {od_41 an_41 : Option Addr} {sl_41 : Array (Option Value)}
    (a_41 : PySem.W.nsIn K mainGlobals "_law_page" = some (some (.ref f_41))) (l_41 : K.lookup f_41 = some ⟨oc_41, od_41, .func (PySem.W.fnOf "_law_page" "_law_page" (defArgs s__law_page) (defBody s__law_page) (defScope s__law_page) .none kV_41 dc_41 pm_41 an_41 cd_41 ct_41), sl_41⟩) (c_41 : PySem.W.codeIn K cd_41 "_law_page" = true) (k_41 : PySem.W.keepIn K (.ref f_41) = true)
    {f_42 : Addr} {oc_42 kV_42 dc_42 pm_42 cd_42 ct_42 : Value} {od_42 an_42 : Option Addr} {sl_42 : Array (Option Value)}
    (a_42 : PySem.W.nsIn K mainGlobals "_law_page_of" = some (some (.ref f_42))) (l_42 : K.lookup f_42 = some ⟨oc_42, od_42, .func (PySem.W.fnOf "_law_page_of" "_law_page_of" (defArgs s__law_page_of) (defBody s__law_page_of) (defScope s__law_page_of) .none kV_42 dc_42 pm_42 an_42 cd_42 ct_42), sl_42⟩) (c_42 : PySem.W.codeIn K cd_42 "_law_page_of" = true) (k_42 : PySem.W.keepIn K (.ref f_42) = true)
    {f_43 : Addr} {oc_43 kV_43 dc_43 pm_43 cd_43 ct_43 : Value} {od_43 an_43 : Option Addr} {sl_43 : Array (Option Value)}
    (a_43 : PySem.W.nsIn K mainGlobals "_law_touching" = some (some (.ref f_43))) (l_43 : K.lookup f_43 = some ⟨oc_43, od_43, .func (PySem.W.fnOf "_law_touching" "_law_touching" (defArgs s__law_touching) (defBody s__law_touching) (defScope s__law_touching) .none kV_43 dc_43 pm_43 an_43 cd_43 ct_43), sl_43⟩) (c_43 : PySem.W.codeIn K cd_43 "_law_touching" = true) (k_43 : PySem.W.keepIn K (.ref f_43) = true)
    {f_44 : Addr} {oc_44 kV_44 dc_44 pm_44 cd_44 ct_44 : Value} {od_44 an_44 : Option Addr} {sl_44 : Array (Option Value)}
    (a_44 : PySem.W.nsIn K mainGlobals "_law_is_told" = some (some (.ref f_44))) (l_44 : K.lookup f_44 = some ⟨oc_44, od_44, .func (PySem.W.fnOf "_law_is_told" "_law_is_told" (defArgs s__law_is_told) (defBody s__law_is_told) (defScope s__law_is_told) .none kV_44 dc_44 pm_44 an_44 cd_44 ct_44), sl_44⟩) (c_44 : PySem.W.codeIn K cd_44 "_law_is_told" = true) (k_44 : PySem.W.keepIn K (.ref f_44) = true)
    {f_45 : Addr} {oc_45 kV_45 dc_45 pm_45 cd_45 ct_45 : Value} {od_45 an_45 : Option Addr} {sl_45 : Array (Option Value)}
    (a_45 : PySem.W.nsIn K mainGlobals "law" = some (some (.ref f_45))) (l_45 : K.lookup f_45 = some ⟨oc_45, od_45, .func (PySem.W.fnOf "law" "law" (defArgs s_law) (defBody s_law) (defScope s_law) .none kV_45 dc_45 pm_45 an_45 cd_45 ct_45), sl_45⟩) (c_45 : PySem.W.codeIn K cd_45 "law" = true) (k_45 : PySem.W.keepIn K (.ref f_45) = true)
    (z_abs : PySem.W.nsIn K mainGlobals "abs" = some none)
    (z_bool : PySem.W.nsIn K mainGlobals "bool" = some none)
    (z_int : PySem.W.nsIn K mainGlobals "int" = some none)
    (z_isinstance : PySem.W.nsIn K mainGlobals "isinstance" = some none)
    (z_len : PySem.W.nsIn K mainGlobals "len" = some none)
    (z_range : PySem.W.nsIn K mainGlobals "range" = some none)
    (z_str : PySem.W.nsIn K mainGlobals "str" = some none)
    (z_tuple : PySem.W.nsIn K mainGlobals "tuple" = some none)
    (z_zip : PySem.W.nsIn K mainGlobals "zip" = some none)
    (q_gcd : PySem.W.nsIn K mainGlobals "gcd" = some (some (.builtin "math.gcd"))) : Txt K mg where
  f_frac := f_0
  d_frac := PySem.W.fnOf "frac" "frac" (defArgs s_frac) (defBody s_frac) (defScope s_frac) .none kV_0 dc_0 pm_0 an_0 cd_0 ct_0
  F_frac := fun_mk (st := s_frac) l_0 c_0 k_0
  m_frac := PySem.W.mg_of X G a_0
  b_frac := (fun_mk (st := s_frac) l_0 c_0 k_0).binds fun _ _ _ _ _ _ us hl => match us, hl with | [_, _], _ => rfl
  f_whole := f_1
  d_whole := PySem.W.fnOf "whole" "whole" (defArgs s_whole) (defBody s_whole) (defScope s_whole) .none kV_1 dc_1 pm_1 an_1 cd_1 ct_1
  F_whole := fun_mk (st := s_whole) l_1 c_1 k_1
  m_whole := PySem.W.mg_of X G a_1
  b_whole := (fun_mk (st := s_whole) l_1 c_1 k_1).binds fun _ _ _ _ _ _ us hl => match us, hl with | [_], _ => rfl
  f_plus := f_2
  d_plus := PySem.W.fnOf "plus" "plus" (defArgs s_plus) (defBody s_plus) (defScope s_plus) .none kV_2 dc_2 pm_2 an_2 cd_2 ct_2
  F_plus := fun_mk (st := s_plus) l_2 c_2 k_2
  m_plus := PySem.W.mg_of X G a_2
  b_plus := (fun_mk (st := s_plus) l_2 c_2 k_2).binds fun _ _ _ _ _ _ us hl => match us, hl with | [_, _], _ => rfl
  f_minus := f_3
  d_minus := PySem.W.fnOf "minus" "minus" (defArgs s_minus) (defBody s_minus) (defScope s_minus) .none kV_3 dc_3 pm_3 an_3 cd_3 ct_3
  F_minus := fun_mk (st := s_minus) l_3 c_3 k_3
  m_minus := PySem.W.mg_of X G a_3
  b_minus := (fun_mk (st := s_minus) l_3 c_3 k_3).binds fun _ _ _ _ _ _ us hl => match us, hl with | [_, _], _ => rfl
  f_times := f_4
  d_times := PySem.W.fnOf "times" "times" (defArgs s_times) (defBody s_times) (defScope s_times) .none kV_4 dc_4 pm_4 an_4 cd_4 ct_4
  F_times := fun_mk (st := s_times) l_4 c_4 k_4
  m_times := PySem.W.mg_of X G a_4
  b_times := (fun_mk (st := s_times) l_4 c_4 k_4).binds fun _ _ _ _ _ _ us hl => match us, hl with | [_, _], _ => rfl
  f_floor_of := f_5
  d_floor_of := PySem.W.fnOf "floor_of" "floor_of" (defArgs s_floor_of) (defBody s_floor_of) (defScope s_floor_of) .none kV_5 dc_5 pm_5 an_5 cd_5 ct_5
  F_floor_of := fun_mk (st := s_floor_of) l_5 c_5 k_5
  m_floor_of := PySem.W.mg_of X G a_5
  b_floor_of := (fun_mk (st := s_floor_of) l_5 c_5 k_5).binds fun _ _ _ _ _ _ us hl => match us, hl with | [_], _ => rfl
  f_total_of := f_6
  d_total_of := PySem.W.fnOf "total_of" "total_of" (defArgs s_total_of) (defBody s_total_of) (defScope s_total_of) .none kV_6 dc_6 pm_6 an_6 cd_6 ct_6
  F_total_of := fun_mk (st := s_total_of) l_6 c_6 k_6
  m_total_of := PySem.W.mg_of X G a_6
  b_total_of := (fun_mk (st := s_total_of) l_6 c_6 k_6).binds fun _ _ _ _ _ _ us hl => match us, hl with | [_], _ => rfl
  f_product_sum := f_7
  d_product_sum := PySem.W.fnOf "product_sum" "product_sum" (defArgs s_product_sum) (defBody s_product_sum) (defScope s_product_sum) .none kV_7 dc_7 pm_7 an_7 cd_7 ct_7
  F_product_sum := fun_mk (st := s_product_sum) l_7 c_7 k_7
  m_product_sum := PySem.W.mg_of X G a_7
  b_product_sum := (fun_mk (st := s_product_sum) l_7 c_7 k_7).binds fun _ _ _ _ _ _ us hl => match us, hl with | [_, _], _ => rfl
  f_tens := f_8
  d_tens := PySem.W.fnOf "tens" "tens" (defArgs s_tens) (defBody s_tens) (defScope s_tens) .none kV_8 dc_8 pm_8 an_8 cd_8 ct_8
  F_tens := fun_mk (st := s_tens) l_8 c_8 k_8
  m_tens := PySem.W.mg_of X G a_8
  b_tens := (fun_mk (st := s_tens) l_8 c_8 k_8).binds fun _ _ _ _ _ _ us hl => match us, hl with | [_], _ => rfl
  f_choose := f_9
  d_choose := PySem.W.fnOf "choose" "choose" (defArgs s_choose) (defBody s_choose) (defScope s_choose) .none kV_9 dc_9 pm_9 an_9 cd_9 ct_9
  F_choose := fun_mk (st := s_choose) l_9 c_9 k_9
  m_choose := PySem.W.mg_of X G a_9
  b_choose := (fun_mk (st := s_choose) l_9 c_9 k_9).binds fun _ _ _ _ _ _ us hl => match us, hl with | [_, _], _ => rfl
  f_printed := f_10
  d_printed := PySem.W.fnOf "printed" "printed" (defArgs s_printed) (defBody s_printed) (defScope s_printed) .none kV_10 dc_10 pm_10 an_10 cd_10 ct_10
  F_printed := fun_mk (st := s_printed) l_10 c_10 k_10
  m_printed := PySem.W.mg_of X G a_10
  b_printed := (fun_mk (st := s_printed) l_10 c_10 k_10).binds fun _ _ _ _ _ _ us hl => match us, hl with | [_, _, _], _ => rfl
  f_choices_at := f_11
  d_choices_at := PySem.W.fnOf "choices_at" "choices_at" (defArgs s_choices_at) (defBody s_choices_at) (defScope s_choices_at) .none kV_11 dc_11 pm_11 an_11 cd_11 ct_11
  F_choices_at := fun_mk (st := s_choices_at) l_11 c_11 k_11
  m_choices_at := PySem.W.mg_of X G a_11
  b_choices_at := (fun_mk (st := s_choices_at) l_11 c_11 k_11).binds fun _ _ _ _ _ _ us hl => match us, hl with | [_, _], _ => rfl
  f_slips_summed := f_12
  d_slips_summed := PySem.W.fnOf "slips_summed" "slips_summed" (defArgs s_slips_summed) (defBody s_slips_summed) (defScope s_slips_summed) .none kV_12 dc_12 pm_12 an_12 cd_12 ct_12
  F_slips_summed := fun_mk (st := s_slips_summed) l_12 c_12 k_12
  m_slips_summed := PySem.W.mg_of X G a_12
  b_slips_summed := (fun_mk (st := s_slips_summed) l_12 c_12 k_12).binds fun _ _ _ _ _ _ us hl => match us, hl with | [_, _], _ => rfl
  f_plain_line := f_13
  d_plain_line := PySem.W.fnOf "plain_line" "plain_line" (defArgs s_plain_line) (defBody s_plain_line) (defScope s_plain_line) .none kV_13 dc_13 pm_13 an_13 cd_13 ct_13
  F_plain_line := fun_mk (st := s_plain_line) l_13 c_13 k_13
  m_plain_line := PySem.W.mg_of X G a_13
  b_plain_line := (fun_mk (st := s_plain_line) l_13 c_13 k_13).binds fun _ _ _ _ _ _ us hl => match us, hl with | [_, _], _ => rfl
  f_columns_at := f_14
  d_columns_at := PySem.W.fnOf "columns_at" "columns_at" (defArgs s_columns_at) (defBody s_columns_at) (defScope s_columns_at) .none kV_14 dc_14 pm_14 an_14 cd_14 ct_14
  F_columns_at := fun_mk (st := s_columns_at) l_14 c_14 k_14
  m_columns_at := PySem.W.mg_of X G a_14
  b_columns_at := (fun_mk (st := s_columns_at) l_14 c_14 k_14).binds fun _ _ _ _ _ _ us hl => match us, hl with | [_, _], _ => rfl
  f_turned_on := f_15
  d_turned_on := PySem.W.fnOf "turned_on" "turned_on" (defArgs s_turned_on) (defBody s_turned_on) (defScope s_turned_on) .none kV_15 dc_15 pm_15 an_15 cd_15 ct_15
  F_turned_on := fun_mk (st := s_turned_on) l_15 c_15 k_15
  m_turned_on := PySem.W.mg_of X G a_15
  b_turned_on := (fun_mk (st := s_turned_on) l_15 c_15 k_15).binds fun _ _ _ _ _ _ us hl => match us, hl with | [_], _ => rfl
  f_rows_turned := f_16
  d_rows_turned := PySem.W.fnOf "rows_turned" "rows_turned" (defArgs s_rows_turned) (defBody s_rows_turned) (defScope s_rows_turned) .none kV_16 dc_16 pm_16 an_16 cd_16 ct_16
  F_rows_turned := fun_mk (st := s_rows_turned) l_16 c_16 k_16
  m_rows_turned := PySem.W.mg_of X G a_16
  b_rows_turned := (fun_mk (st := s_rows_turned) l_16 c_16 k_16).binds fun _ _ _ _ _ _ us hl => match us, hl with | [_, _, _, _], _ => rfl
  f_reach_at := f_17
  d_reach_at := PySem.W.fnOf "reach_at" "reach_at" (defArgs s_reach_at) (defBody s_reach_at) (defScope s_reach_at) .none kV_17 dc_17 pm_17 an_17 cd_17 ct_17
  F_reach_at := fun_mk (st := s_reach_at) l_17 c_17 k_17
  m_reach_at := PySem.W.mg_of X G a_17
  b_reach_at := (fun_mk (st := s_reach_at) l_17 c_17 k_17).binds fun _ _ _ _ _ _ us hl => match us, hl with | [_, _], _ => rfl
  f_stretch := f_18
  d_stretch := PySem.W.fnOf "stretch" "stretch" (defArgs s_stretch) (defBody s_stretch) (defScope s_stretch) .none kV_18 dc_18 pm_18 an_18 cd_18 ct_18
  F_stretch := fun_mk (st := s_stretch) l_18 c_18 k_18
  m_stretch := PySem.W.mg_of X G a_18
  b_stretch := (fun_mk (st := s_stretch) l_18 c_18 k_18).binds fun _ _ _ _ _ _ us hl => match us, hl with | [_, _], _ => rfl
  f_page_of := f_19
  d_page_of := PySem.W.fnOf "page_of" "page_of" (defArgs s_page_of) (defBody s_page_of) (defScope s_page_of) .none kV_19 dc_19 pm_19 an_19 cd_19 ct_19
  F_page_of := fun_mk (st := s_page_of) l_19 c_19 k_19
  m_page_of := PySem.W.mg_of X G a_19
  b_page_of := (fun_mk (st := s_page_of) l_19 c_19 k_19).binds fun _ _ _ _ _ _ us hl => match us, hl with | [_, _], _ => rfl
  f_print_ends := f_20
  d_print_ends := PySem.W.fnOf "print_ends" "print_ends" (defArgs s_print_ends) (defBody s_print_ends) (defScope s_print_ends) .none kV_20 dc_20 pm_20 an_20 cd_20 ct_20
  F_print_ends := fun_mk (st := s_print_ends) l_20 c_20 k_20
  m_print_ends := PySem.W.mg_of X G a_20
  b_print_ends := (fun_mk (st := s_print_ends) l_20 c_20 k_20).binds fun _ _ _ _ _ _ us hl => match us, hl with | [_, _], _ => rfl
  f_can_print := f_21
  d_can_print := PySem.W.fnOf "can_print" "can_print" (defArgs s_can_print) (defBody s_can_print) (defScope s_can_print) .none kV_21 dc_21 pm_21 an_21 cd_21 ct_21
  F_can_print := fun_mk (st := s_can_print) l_21 c_21 k_21
  m_can_print := PySem.W.mg_of X G a_21
  b_can_print := (fun_mk (st := s_can_print) l_21 c_21 k_21).binds fun _ _ _ _ _ _ us hl => match us, hl with | [_, _], _ => rfl
  f__law_bag := f_22
  d__law_bag := PySem.W.fnOf "_law_bag" "_law_bag" (defArgs s__law_bag) (defBody s__law_bag) (defScope s__law_bag) .none kV_22 dc_22 pm_22 an_22 cd_22 ct_22
  F__law_bag := fun_mk (st := s__law_bag) l_22 c_22 k_22
  m__law_bag := PySem.W.mg_of X G a_22
  b__law_bag := (fun_mk (st := s__law_bag) l_22 c_22 k_22).binds fun _ _ _ _ _ _ us hl => match us, hl with | [_], _ => rfl
  f__law_draw := f_23
  d__law_draw := PySem.W.fnOf "_law_draw" "_law_draw" (defArgs s__law_draw) (defBody s__law_draw) (defScope s__law_draw) .none kV_23 dc_23 pm_23 an_23 cd_23 ct_23
  F__law_draw := fun_mk (st := s__law_draw) l_23 c_23 k_23
  m__law_draw := PySem.W.mg_of X G a_23
  b__law_draw := (fun_mk (st := s__law_draw) l_23 c_23 k_23).binds fun _ _ _ _ _ _ us hl => match us, hl with | [_, _], _ => rfl
  f__law_pick := f_24
  d__law_pick := PySem.W.fnOf "_law_pick" "_law_pick" (defArgs s__law_pick) (defBody s__law_pick) (defScope s__law_pick) .none kV_24 dc_24 pm_24 an_24 cd_24 ct_24
  F__law_pick := fun_mk (st := s__law_pick) l_24 c_24 k_24
  m__law_pick := PySem.W.mg_of X G a_24
  b__law_pick := (fun_mk (st := s__law_pick) l_24 c_24 k_24).binds fun _ _ _ _ _ _ us hl => match us, hl with | [_, _], _ => rfl
  f__law_same := f_25
  d__law_same := PySem.W.fnOf "_law_same" "_law_same" (defArgs s__law_same) (defBody s__law_same) (defScope s__law_same) .none kV_25 dc_25 pm_25 an_25 cd_25 ct_25
  F__law_same := fun_mk (st := s__law_same) l_25 c_25 k_25
  m__law_same := PySem.W.mg_of X G a_25
  b__law_same := (fun_mk (st := s__law_same) l_25 c_25 k_25).binds fun _ _ _ _ _ _ us hl => match us, hl with | [_, _], _ => rfl
  f__law_gcd := f_26
  d__law_gcd := PySem.W.fnOf "_law_gcd" "_law_gcd" (defArgs s__law_gcd) (defBody s__law_gcd) (defScope s__law_gcd) .none kV_26 dc_26 pm_26 an_26 cd_26 ct_26
  F__law_gcd := fun_mk (st := s__law_gcd) l_26 c_26 k_26
  m__law_gcd := PySem.W.mg_of X G a_26
  b__law_gcd := (fun_mk (st := s__law_gcd) l_26 c_26 k_26).binds fun _ _ _ _ _ _ us hl => match us, hl with | [_, _], _ => rfl
  f__law_fr := f_27
  d__law_fr := PySem.W.fnOf "_law_fr" "_law_fr" (defArgs s__law_fr) (defBody s__law_fr) (defScope s__law_fr) .none kV_27 dc_27 pm_27 an_27 cd_27 ct_27
  F__law_fr := fun_mk (st := s__law_fr) l_27 c_27 k_27
  m__law_fr := PySem.W.mg_of X G a_27
  b__law_fr := (fun_mk (st := s__law_fr) l_27 c_27 k_27).binds fun _ _ _ _ _ _ us hl => match us, hl with | [_, _], _ => rfl
  f__law_plus := f_28
  d__law_plus := PySem.W.fnOf "_law_plus" "_law_plus" (defArgs s__law_plus) (defBody s__law_plus) (defScope s__law_plus) .none kV_28 dc_28 pm_28 an_28 cd_28 ct_28
  F__law_plus := fun_mk (st := s__law_plus) l_28 c_28 k_28
  m__law_plus := PySem.W.mg_of X G a_28
  b__law_plus := (fun_mk (st := s__law_plus) l_28 c_28 k_28).binds fun _ _ _ _ _ _ us hl => match us, hl with | [_, _], _ => rfl
  f__law_minus := f_29
  d__law_minus := PySem.W.fnOf "_law_minus" "_law_minus" (defArgs s__law_minus) (defBody s__law_minus) (defScope s__law_minus) .none kV_29 dc_29 pm_29 an_29 cd_29 ct_29
  F__law_minus := fun_mk (st := s__law_minus) l_29 c_29 k_29
  m__law_minus := PySem.W.mg_of X G a_29
  b__law_minus := (fun_mk (st := s__law_minus) l_29 c_29 k_29).binds fun _ _ _ _ _ _ us hl => match us, hl with | [_, _], _ => rfl
  f__law_times := f_30
  d__law_times := PySem.W.fnOf "_law_times" "_law_times" (defArgs s__law_times) (defBody s__law_times) (defScope s__law_times) .none kV_30 dc_30 pm_30 an_30 cd_30 ct_30
  F__law_times := fun_mk (st := s__law_times) l_30 c_30 k_30
  m__law_times := PySem.W.mg_of X G a_30
  b__law_times := (fun_mk (st := s__law_times) l_30 c_30 k_30).binds fun _ _ _ _ _ _ us hl => match us, hl with | [_, _], _ => rfl
  f__law_below := f_31
  d__law_below := PySem.W.fnOf "_law_below" "_law_below" (defArgs s__law_below) (defBody s__law_below) (defScope s__law_below) .none kV_31 dc_31 pm_31 an_31 cd_31 ct_31
  F__law_below := fun_mk (st := s__law_below) l_31 c_31 k_31
  m__law_below := PySem.W.mg_of X G a_31
  b__law_below := (fun_mk (st := s__law_below) l_31 c_31 k_31).binds fun _ _ _ _ _ _ us hl => match us, hl with | [_, _], _ => rfl
  f__law_ten := f_32
  d__law_ten := PySem.W.fnOf "_law_ten" "_law_ten" (defArgs s__law_ten) (defBody s__law_ten) (defScope s__law_ten) .none kV_32 dc_32 pm_32 an_32 cd_32 ct_32
  F__law_ten := fun_mk (st := s__law_ten) l_32 c_32 k_32
  m__law_ten := PySem.W.mg_of X G a_32
  b__law_ten := (fun_mk (st := s__law_ten) l_32 c_32 k_32).binds fun _ _ _ _ _ _ us hl => match us, hl with | [_], _ => rfl
  f__law_printed := f_33
  d__law_printed := PySem.W.fnOf "_law_printed" "_law_printed" (defArgs s__law_printed) (defBody s__law_printed) (defScope s__law_printed) .none kV_33 dc_33 pm_33 an_33 cd_33 ct_33
  F__law_printed := fun_mk (st := s__law_printed) l_33 c_33 k_33
  m__law_printed := PySem.W.mg_of X G a_33
  b__law_printed := (fun_mk (st := s__law_printed) l_33 c_33 k_33).binds fun _ _ _ _ _ _ us hl => match us, hl with | [_, _, _], _ => rfl
  f__law_stripe := f_34
  d__law_stripe := PySem.W.fnOf "_law_stripe" "_law_stripe" (defArgs s__law_stripe) (defBody s__law_stripe) (defScope s__law_stripe) .none kV_34 dc_34 pm_34 an_34 cd_34 ct_34
  F__law_stripe := fun_mk (st := s__law_stripe) l_34 c_34 k_34
  m__law_stripe := PySem.W.mg_of X G a_34
  b__law_stripe := (fun_mk (st := s__law_stripe) l_34 c_34 k_34).binds fun _ _ _ _ _ _ us hl => match us, hl with | [_, _, _], _ => rfl
  f__law_choose := f_35
  d__law_choose := PySem.W.fnOf "_law_choose" "_law_choose" (defArgs s__law_choose) (defBody s__law_choose) (defScope s__law_choose) .none kV_35 dc_35 pm_35 an_35 cd_35 ct_35
  F__law_choose := fun_mk (st := s__law_choose) l_35 c_35 k_35
  m__law_choose := PySem.W.mg_of X G a_35
  b__law_choose := (fun_mk (st := s__law_choose) l_35 c_35 k_35).binds fun _ _ _ _ _ _ us hl => match us, hl with | [_, _], _ => rfl
  f__law_at := f_36
  d__law_at := PySem.W.fnOf "_law_at" "_law_at" (defArgs s__law_at) (defBody s__law_at) (defScope s__law_at) .none kV_36 dc_36 pm_36 an_36 cd_36 ct_36
  F__law_at := fun_mk (st := s__law_at) l_36 c_36 k_36
  m__law_at := PySem.W.mg_of X G a_36
  b__law_at := (fun_mk (st := s__law_at) l_36 c_36 k_36).binds fun _ _ _ _ _ _ us hl => match us, hl with | [_, _, _], _ => rfl
  f__law_no_hand := f_37
  d__law_no_hand := PySem.W.fnOf "_law_no_hand" "_law_no_hand" (defArgs s__law_no_hand) (defBody s__law_no_hand) (defScope s__law_no_hand) .none kV_37 dc_37 pm_37 an_37 cd_37 ct_37
  F__law_no_hand := fun_mk (st := s__law_no_hand) l_37 c_37 k_37
  m__law_no_hand := PySem.W.mg_of X G a_37
  b__law_no_hand := (fun_mk (st := s__law_no_hand) l_37 c_37 k_37).binds fun _ _ _ _ _ _ us hl => match us, hl with | [_], _ => rfl
  f__law_far := f_38
  d__law_far := PySem.W.fnOf "_law_far" "_law_far" (defArgs s__law_far) (defBody s__law_far) (defScope s__law_far) .none kV_38 dc_38 pm_38 an_38 cd_38 ct_38
  F__law_far := fun_mk (st := s__law_far) l_38 c_38 k_38
  m__law_far := PySem.W.mg_of X G a_38
  b__law_far := (fun_mk (st := s__law_far) l_38 c_38 k_38).binds fun _ _ _ _ _ _ us hl => match us, hl with | [_, _], _ => rfl
  f__law_start := f_39
  d__law_start := PySem.W.fnOf "_law_start" "_law_start" (defArgs s__law_start) (defBody s__law_start) (defScope s__law_start) .none kV_39 dc_39 pm_39 an_39 cd_39 ct_39
  F__law_start := fun_mk (st := s__law_start) l_39 c_39 k_39
  m__law_start := PySem.W.mg_of X G a_39
  b__law_start := (fun_mk (st := s__law_start) l_39 c_39 k_39).binds fun _ _ _ _ _ _ us hl => match us, hl with | [_, _], _ => rfl
  f__law_hand := f_40
  d__law_hand := PySem.W.fnOf "_law_hand" "_law_hand" (defArgs s__law_hand) (defBody s__law_hand) (defScope s__law_hand) .none kV_40 dc_40 pm_40 an_40 cd_40 ct_40
  F__law_hand := fun_mk (st := s__law_hand) l_40 c_40 k_40
  m__law_hand := PySem.W.mg_of X G a_40
  b__law_hand := (fun_mk (st := s__law_hand) l_40 c_40 k_40).binds fun _ _ _ _ _ _ us hl => match us, hl with | [_, _], _ => rfl
  f__law_page := f_41
  d__law_page := PySem.W.fnOf "_law_page" "_law_page" (defArgs s__law_page) (defBody s__law_page) (defScope s__law_page) .none kV_41 dc_41 pm_41 an_41 cd_41 ct_41
  F__law_page := fun_mk (st := s__law_page) l_41 c_41 k_41
  m__law_page := PySem.W.mg_of X G a_41
  b__law_page := (fun_mk (st := s__law_page) l_41 c_41 k_41).binds fun _ _ _ _ _ _ us hl => match us, hl with | [_, _], _ => rfl
  f__law_page_of := f_42
  d__law_page_of := PySem.W.fnOf "_law_page_of" "_law_page_of" (defArgs s__law_page_of) (defBody s__law_page_of) (defScope s__law_page_of) .none kV_42 dc_42 pm_42 an_42 cd_42 ct_42
  F__law_page_of := fun_mk (st := s__law_page_of) l_42 c_42 k_42
  m__law_page_of := PySem.W.mg_of X G a_42
  b__law_page_of := (fun_mk (st := s__law_page_of) l_42 c_42 k_42).binds fun _ _ _ _ _ _ us hl => match us, hl with | [_, _], _ => rfl
  f__law_touching := f_43
  d__law_touching := PySem.W.fnOf "_law_touching" "_law_touching" (defArgs s__law_touching) (defBody s__law_touching) (defScope s__law_touching) .none kV_43 dc_43 pm_43 an_43 cd_43 ct_43
  F__law_touching := fun_mk (st := s__law_touching) l_43 c_43 k_43
  m__law_touching := PySem.W.mg_of X G a_43
  b__law_touching := (fun_mk (st := s__law_touching) l_43 c_43 k_43).binds fun _ _ _ _ _ _ us hl => match us, hl with | [_, _], _ => rfl
  f__law_is_told := f_44
  d__law_is_told := PySem.W.fnOf "_law_is_told" "_law_is_told" (defArgs s__law_is_told) (defBody s__law_is_told) (defScope s__law_is_told) .none kV_44 dc_44 pm_44 an_44 cd_44 ct_44
  F__law_is_told := fun_mk (st := s__law_is_told) l_44 c_44 k_44
  m__law_is_told := PySem.W.mg_of X G a_44
  b__law_is_told := (fun_mk (st := s__law_is_told) l_44 c_44 k_44).binds fun _ _ _ _ _ _ us hl => match us, hl with | [_, _, _], _ => rfl
  f_law := f_45
  d_law := PySem.W.fnOf "law" "law" (defArgs s_law) (defBody s_law) (defScope s_law) .none kV_45 dc_45 pm_45 an_45 cd_45 ct_45
  F_law := fun_mk (st := s_law) l_45 c_45 k_45
  m_law := PySem.W.mg_of X G a_45
  kb_page_of_0 := L2.P3.Fun.kb (fun_mk (st := s_page_of) l_19 c_19 k_19) 0 ["hand", "page"] [1, 0] fun _ _ _ _ _ _ us ws h1 h2 => match us, ws, h1, h2 with | [], [_, _], _, _ => rfl
  kb_can_print_0 := L2.P3.Fun.kb (fun_mk (st := s_can_print) l_21 c_21 k_21) 0 ["n", "page"] [1, 0] fun _ _ _ _ _ _ us ws h1 h2 => match us, ws, h1, h2 with | [], [_, _], _, _ => rfl
  n_abs := PySem.W.mg_none_of X G z_abs
  n_bool := PySem.W.mg_none_of X G z_bool
  n_int := PySem.W.mg_none_of X G z_int
  n_isinstance := PySem.W.mg_none_of X G z_isinstance
  n_len := PySem.W.mg_none_of X G z_len
  n_range := PySem.W.mg_none_of X G z_range
  n_str := PySem.W.mg_none_of X G z_str
  n_tuple := PySem.W.mg_none_of X G z_tuple
  n_zip := PySem.W.mg_none_of X G z_zip
  m_gcd := PySem.W.mg_of X G q_gcd
end Lawk11
namespace Lawk11
open PySem PySem.Spec PyProof.Rows L2 L2.P3
local macro_rules | `(tactic| walk_at "w") => `(tactic| conv => whnf)
theorem frac_spec (a b : Int) (Q : PV → Prop) (hb : b ≠ 0) (hs : Sz 8000 b) (q : Q (fr (Rat.divInt a b))) : F_frac [.int a, .int b] Q := by
  have hg := sz_gcd (a := a) hb hs
  have hg0 := gcd_pos' (a := a) hb
  refine ⟨rfl, ?_⟩
  walk_at "w"
  refine br (fun h => ?_) (fun h => ?_)
  · have h := of_decide_eq_true h
    walk_at "w"
    refine ⟨divOk_sz hg.neg (by decide) (by omega), divOk_sz hg.neg (by decide) (by omega), by simp, ?_⟩
    rw [(frac_neg h).1, (frac_neg h).2]
    exact ⟨rfl, q⟩
  · have h : 0 < b := by have := of_decide_eq_false h; omega
    refine ⟨divOk_sz hg (by decide) (by omega), divOk_sz hg (by decide) (by omega), by simp, ?_⟩
    rw [fdiv_pos _ hg0, fdiv_pos _ hg0, (frac_pos h).1, (frac_pos h).2]
    exact ⟨rfl, q⟩
theorem whole_spec (i : Int) (Q : PV → Prop) (q : Q (fr (i : Rat))) : F_whole [.int i] Q := by
  rw [fr_int] at q
  exact ⟨rfl, by simp, rfl, q⟩
theorem plus_spec (x y : Rat) (Q : PV → Prop) {n m : Nat} (hx : RS n x) (hy : RS m y) (h : n + m ≤ 8000) (q : Q (fr (x + y))) : F_plus [fr x, fr y] Q := by
  have o := mulOk_fr hx hy (by omega)
  refine ⟨rfl, o.1, o.2.1, o.2.2.1, rfl, frac_spec _ _ _ (Int.ne_of_gt (Int.mul_pos (den_pos' x) (den_pos' y))) ((rs_nums hx hy).1.mono h) ?_⟩
  rw [← rat_add_eq]
  exact ⟨rfl, q⟩
theorem minus_spec (x y : Rat) (Q : PV → Prop) {n m : Nat} (hx : RS n x) (hy : RS m y) (h : n + m ≤ 8000) (q : Q (fr (x - y))) : F_minus [fr x, fr y] Q := by
  have o := mulOk_fr hx hy (by omega)
  refine ⟨rfl, o.1, o.2.1, o.2.2.1, rfl, frac_spec _ _ _ (Int.ne_of_gt (Int.mul_pos (den_pos' x) (den_pos' y))) ((rs_nums hx hy).1.mono h) ?_⟩
  rw [← rat_sub_eq]
  exact ⟨rfl, q⟩
theorem times_spec (x y : Rat) (Q : PV → Prop) {n m : Nat} (hx : RS n x) (hy : RS m y) (h : n + m ≤ 8000) (q : Q (fr (x * y))) : F_times [fr x, fr y] Q := by
  have o := mulOk_fr hx hy (by omega)
  refine ⟨rfl, o.2.2.2.1, o.2.2.1, rfl, frac_spec _ _ _ (Int.ne_of_gt (Int.mul_pos (den_pos' x) (den_pos' y))) ((rs_nums hx hy).1.mono h) ?_⟩
  rw [← rat_mul_eq]
  exact ⟨rfl, q⟩
theorem floor_of_spec (x : Rat) (Q : PV → Prop) {n : Nat} (hx : RS n x) (h : n ≤ 8000) (q : Q (.int x.floor)) : F_floor_of [fr x] Q := by
  refine ⟨rfl, ?_⟩
  walk_at "w"
  refine ⟨divOk_sz hx.2 (by omega) (Int.ne_of_gt (den_pos' x)), ?_⟩
  rw [fdiv_pos _ (den_pos' x), ← Rat.floor_def]
  exact ⟨rfl, q⟩
theorem total_spec (S : Store) (n k : Nat) (f : Nat → Rat) (Q : PQ) {a b : Nat} (e : S[n]? = some (frl k f)) (ha : ∀ i, i < k → RS a (f i)) (hb : ∀ i, i ≤ k → RS b (sig i f)) (l : a + b ≤ 7000) (q : Q (fr (sig k f)) S) : F_total_of [.lst n] S Q := by
  unfold F_total_of
  refine ⟨rfl, ?_⟩
  refine ⟨by simp, ?_⟩
  refine ⟨rfl, ?_⟩
  refine onO_of e ?_
  refine pForL_inv (fun j ρ S' => ∃ (A B : Int) (z : Option PV), ρ = [some (.lst n), some (.int A), some (.int B), z] ∧ S' = S ∧ 0 < B ∧ Sz (b + 401) B ∧ Rat.divInt A B = sig j f) _ 0 ⟨0, 1, _, rfl, rfl, by decide, sz_one (by omega), by rfl⟩ ?_ ?_ ?_
  · rintro j ρ S' ⟨A, B, z, rfl, rfl, _⟩
    exact e
  · rintro j x ρ S' ex ⟨A, B, z, rfl, rfl, hB, sB, hs⟩
    have hj : j < k := by
      have := (List.getElem?_eq_some_iff.mp ex).1
      rwa [frs_len] at this
    unfold frl at ex
    rw [List.getElem?_map, List.getElem?_range hj] at ex
    cases ex
    have fj := ha j hj
    rw [Nat.zero_add] at *
    have sA : Sz (b + (b + 401)) A := sz_above hB hs (hb j (by omega)) sB
    have hd : (0 : Int) < (f j).den := den_pos' (f j)
    have hB2 : 0 < B * (f j).den := Int.mul_pos hB hd
    have hs2 : Rat.divInt (A * (f j).den + (f j).num * B) (B * (f j).den) = sig (j + 1) f := by
      rw [sig, ← hs, ← Rat.num_divInt_den (f j), Rat.divInt_add_divInt _ _ (by omega) (by have := (f j).den_nz; omega), Rat.num_divInt_den]
    walk_at "w"
    refine ⟨mulOk_sz sA fj.2 (by omega), mulOk_sz fj.1 sB (by omega), mulOk_sz sB fj.2 (by omega), ?_⟩
    have sB2 := sB.mul fj.2
    refine ⟨⟨by decide, by decide, by decide⟩, ?_⟩
    refine br (fun h => ?_) (fun h => ?_)
    · refine ⟨rfl, frac_spec _ _ _ (by omega) (sB2.mono (by omega)) ?_⟩
      rw [hs2]
      have hr := hb (j + 1) (by omega)
      exact ⟨rfl, _, _, _, rfl, rfl, den_pos' _, hr.2.mono (by omega), Rat.num_divInt_den _⟩
    · have h := of_decide_eq_false h
      refine ⟨_, _, _, rfl, rfl, hB2, ?_, hs2⟩
      have h2 : B * ((f j).den : Int) ≤ 2 ^ 400 := by
        have h3 : ¬ (1 : Int) * 2 ^ (400 : Int).toNat < B * (f j).den := h
        rw [Int.one_mul] at h3
        exact Int.not_lt.mp h3
      exact (sz_le (n := 401) (b := 2 ^ 400) (by omega) h2 (by decide +kernel)).mono (by omega)
  · rintro ρ S' ⟨A, B, z, rfl, rfl, hB, sB, hs⟩
    rw [frs_len, Nat.zero_add] at hs
    refine ⟨rfl, frac_spec _ _ _ (by omega) (sB.mono (by omega)) ?_⟩
    rw [hs]
    exact ⟨rfl, ⟨[], by simp⟩, q⟩
theorem product_spec (S : Store) (x : PV) (n k : Nat) (f g : Nat → Rat) (Q : PQ) {a b c : Nat} (ex : x = .tup (frl k f) ∨ ∃ m, x = .lst m ∧ S[m]? = some (frl k f)) (e : S[n]? = some (frl k g)) (hk : k ≤ 1000000)
    (ha : ∀ i, i < k → RS a (f i)) (hc : ∀ i, i < k → RS c (g i)) (hb : ∀ i, i ≤ k → RS b (sig i fun i => f i * g i)) (l : a + c + b ≤ 7000) (q : Q (fr (sig k fun i => f i * g i)) S) : F_product_sum [x, .lst n] S Q := by
  unfold F_product_sum
  rcases ex with rfl | ⟨m, rfl, ex⟩
  · refine ⟨rfl, ?_⟩

    refine ⟨by rw [frs_len]; omega, by rw [frs_len]; omega, ?_⟩
    rw [frs_len, Int.toNat_natCast]
    refine pLcL_rng (fun i => fr (f i * g i)) (fun _ => trivial) hk (fun i hi acc Qk hq => ?_) ?_
    · walk_at "w"
      refine onO_of (frs_at hi) ?_
      refine onO_of (get_old e) ?_
      refine onO_of (frs_at hi) ?_
      exact ⟨rfl, times_spec _ _ _ (ha i hi) (hc i hi) (by omega) hq⟩
    · refine total_spec _ _ k _ _ (a := a + c) (b := b) get_new (fun i hi => (ha i hi).mul (hc i hi)) hb (by omega) ?_
      exact ⟨rfl, ⟨[_], rfl⟩, q⟩
  · refine ⟨rfl, ?_⟩
    refine onO_of ex ?_
    refine ⟨by rw [frs_len]; omega, by rw [frs_len]; omega, ?_⟩
    rw [frs_len, Int.toNat_natCast]
    refine pLcL_rng (fun i => fr (f i * g i)) (fun _ => trivial) hk (fun i hi acc Qk hq => ?_) ?_
    · walk_at "w"
      refine onO_of (get_old ex) ?_
      refine onO_of (frs_at hi) ?_
      refine onO_of (get_old e) ?_
      refine onO_of (frs_at hi) ?_
      exact ⟨rfl, times_spec _ _ _ (ha i hi) (hc i hi) (by omega) hq⟩
    · refine total_spec _ _ k _ _ (a := a + c) (b := b) get_new (fun i hi => (ha i hi).mul (hc i hi)) hb (by omega) ?_
      exact ⟨rfl, ⟨[_], rfl⟩, q⟩
theorem tens_spec (p : Int) (Q : PV → Prop) (h0 : 0 ≤ p) (h1 : p ≤ 2000) (q : Q (fr ((10 ^ p.toNat : Int) : Rat))) : F_tens [.int p] Q := by
  refine ⟨rfl, ?_⟩
  walk_at "w"
  refine ⟨by omega, by omega, ?_⟩
  refine pForL_range (fun j ρ S => ∃ z, ρ = [some (.int p), some (.int (10 ^ j)), z]) ⟨none, rfl⟩ ?_ ?_
  · rintro j ρ S hj ⟨z, rfl⟩
    walk_at "w"
    exact ⟨mulOk_r (by decide) (by decide), _, rfl⟩
  · rintro ρ S ⟨z, rfl⟩
    walk_at "w"
    refine brT (decide_eq_true h0) ?_
    have e : ((p.natAbs : Int)).toNat = p.toNat := by omega
    rw [e]
    rw [fr_int] at q
    exact ⟨by simp, rfl, q⟩
theorem tens_neg_spec (p : Int) (Q : PV → Prop) (h0 : p < 0) (h1 : -2000 ≤ p) (q : Q (.tup [.int 1, .int (10 ^ (-p).toNat)])) : F_tens [.int p] Q := by
  refine ⟨rfl, ?_⟩
  walk_at "w"
  refine ⟨by omega, by omega, ?_⟩
  refine pForL_range (fun j ρ S => ∃ z, ρ = [some (.int p), some (.int (10 ^ j)), z]) ⟨none, rfl⟩ ?_ ?_
  · rintro j ρ S hj ⟨z, rfl⟩
    walk_at "w"
    exact ⟨mulOk_r (by decide) (by decide), _, rfl⟩
  · rintro ρ S ⟨z, rfl⟩
    walk_at "w"
    refine brF (decide_eq_false (by omega)) ?_
    have e : ((p.natAbs : Int)).toNat = (-p).toNat := by omega
    rw [e]
    exact ⟨by simp, rfl, q⟩
theorem tens_minus_spec (p : Int) (Q : PV → Prop) (h0 : 0 ≤ p) (h1 : p ≤ 2000) (q : Q (fr (Rat.divInt 1 (10 ^ p.toNat)))) : F_tens [.int (-p)] Q := by
  by_cases h : p = 0
  · subst h
    refine tens_spec (-0) Q (by decide) (by decide) ?_
    exact q
  · refine tens_neg_spec (-p) Q (by omega) (by omega) ?_
    rw [Int.neg_neg, fr_one_over (P3.pow10_pos _)]
    exact q
theorem choose_spec (n : Int) (j B : Nat) (Q : PV → Prop) (hn : Sz B n) (hj : Sz B (j : Int)) (l : (B + 1) * j ≤ 7000) (l2 : j ≤ 1000000) (q : Q (.int (bin n j))) : F_choose [.int n, .int j] Q := by
  refine ⟨rfl, ?_⟩
  walk_at "w"
  refine ⟨by omega, by omega, ?_⟩
  refine pForL_range (fun i ρ S => ∃ z, ρ = [some (.int n), some (.int j), some (.int (bin n i)), z] ∧ S = []) ⟨_, by rw [bin_zero]; rfl, rfl⟩ ?_ ?_
  · rintro i ρ S hi ⟨z, rfl, rfl⟩
    have hi : i < j := by omega
    have hb : B ≤ 7000 := by
      have h1 : (B + 1) * 1 ≤ (B + 1) * j := Nat.mul_le_mul_left _ (by omega)
      omega
    have h2 : (B + 1) * i ≤ (B + 1) * j := Nat.mul_le_mul_left _ (by omega)
    have s1 := sz_bin hn hj i (by omega)
    have s2 : Sz B (i : Int) := by unfold Sz at *; omega
    walk_at "w"
    refine ⟨mulOk_sz s1 (hn.sub s2 (Nat.le_refl _) (Nat.le_refl _)) (by omega), divOk_sz (a := 30) (sz_le (b := 1000001) (by omega) (by omega) (by decide)) (by decide) (by omega), ?_⟩
    rw [bin_step]
    exact ⟨_, rfl, rfl⟩
  · rintro ρ S ⟨z, rfl, rfl⟩
    rw [Int.toNat_natCast]
    exact ⟨rfl, q⟩
theorem printed_spec (x : Rat) (p : Int) (mode : Str) (Q : PV → Prop) {n : Nat} (hx : RS n x) (h0 : 0 ≤ p) (h1 : p ≤ 1000) (hn : n ≤ 3000) (q : Q (.int (prn (x * ((10 ^ p.toNat : Int) : Rat)) mode))) : F_printed [fr x, .int p, .str mode] Q := by
  refine ⟨rfl, ?_⟩
  refine ⟨rfl, tens_spec p _ h0 (by omega) ?_⟩
  have ht : RS 4001 ((10 ^ p.toNat : Int) : Rat) := rs_int ((sz_pow10 p.toNat).mono (by omega)) (by decide)
  refine ⟨rfl, times_spec _ _ _ hx ht (by omega) ?_⟩
  have hl := hx.mul ht
  generalize x * ((10 ^ p.toNat : Int) : Rat) = L at *
  unfold prn at q
  walk_at "w"
  refine br (fun h => ?_) (fun h => ?_)
  · rw [if_pos (of_decide_eq_true h)] at q
    walk_at "w"
    exact ⟨rfl, floor_of_spec _ _ hl (by omega) ⟨rfl, q⟩⟩
  · rw [if_neg (of_decide_eq_false h)] at q
    walk_at "w"
    rw [fr_half]
    refine ⟨by simp, ?_⟩
    refine ⟨rfl, plus_spec L (1 / 2) _ hl rs_half (by omega) ?_⟩
    refine ⟨rfl, floor_of_spec _ _ (hl.add rs_half) (by omega) ?_⟩
    walk_at "w"
    generalize (L + 1 / 2).floor = z at *
    refine br (fun h2 => ?_) (fun h2 => ?_)
    · have h2 := of_decide_eq_true h2
      walk_at "w"
      refine br (fun h3 => ?_) (fun h3 => ?_)
      · have h3 : (L.den : Int) = 2 := of_decide_eq_true h3
        have h3 : L.den = 2 := by omega
        walk_at "w"
        refine ⟨(show (2 : Int) ≠ 0 by decide), ?_⟩
        rw [fmod_pos _ (show (0 : Int) < 2 by decide)]
        walk_at "w"
        refine br (fun h4 => ?_) (fun h4 => ?_)
        · rw [if_pos ⟨h2, h3, of_decide_eq_true h4⟩] at q
          exact ⟨rfl, q⟩
        · rw [if_neg (fun z => of_decide_eq_false h4 z.2.2)] at q
          exact ⟨rfl, q⟩
      · have h3 : ¬ (L.den : Int) = 2 := of_decide_eq_false h3
        rw [if_neg (fun z => h3 (by omega))] at q
        exact ⟨rfl, q⟩
    · rw [if_neg (fun z => of_decide_eq_false h2 z.1)] at q
      exact ⟨rfl, q⟩
theorem choices_spec (S : Store) (n : Int) (k B : Nat) (xs : List PV) (u : PV) (Q : PQ) (hx : xs.length = k) (hn : Sz B n) (hj : Sz B (k : Int)) (l : (B + 1) * k ≤ 7000) (l2 : k ≤ 1000000) (q : Q (.lst S.length) (S ++ [nms k (bin n)])) : F_choices_at [.tup [.tup xs, u], .int n] S Q := by
  unfold F_choices_at
  refine ⟨rfl, ?_⟩
  refine ⟨by omega, by omega, ?_⟩
  rw [hx, Int.toNat_natCast]
  refine pLcL_rng (fun i => .int (bin n i)) (fun _ => trivial) l2 (fun i hi acc Qk hq => ?_) q
  walk_at "w"
  have h2 : (B + 1) * i ≤ (B + 1) * k := Nat.mul_le_mul_left _ (by omega)
  exact ⟨rfl, choose_spec n i B _ hn (by unfold Sz at *; omega) (by omega) (by omega) hq⟩
theorem slips_spec (S : Store) (x : PV) (n k : Nat) (f : Nat → Rat) (g : Nat → Int) (Q : PQ) {a b c : Nat} (ex : x = .tup (frl k f) ∨ ∃ m, x = .lst m ∧ S[m]? = some (frl k f)) (e : S[n]? = some (nms k g)) (hk : k ≤ 1000000) (hx : below S.length x = true)
    (ha : ∀ i, i < k → RS a (f i)) (hc : ∀ i, i < k → Sz c (g i)) (c0 : 1 ≤ c) (hb : ∀ i, i ≤ k → RS b (sig i fun i => f i * (g i : Rat))) (l : a + c + b ≤ 7000) (q : Q (fr (sig k fun i => f i * (g i : Rat))) S) : F_slips_summed [x, .lst n] S Q := by
  unfold F_slips_summed
  refine ⟨rfl, ?_⟩
  refine onO_of e ?_
  refine pLcL_rng (fun i => fr (g i : Rat)) (fun acc => get_old e) hk (fun i hi acc Qk hq => ?_) ?_
  · walk_at "w"
    exact ⟨rfl, whole_spec _ _ hq⟩
  · refine product_spec _ x _ k f (fun i => (g i : Rat)) _ (a := a) (b := b) (c := c) ?_ get_new hk ha (fun i hi => rs_int (hc i hi) c0) hb l ?_
    · rcases ex with h | ⟨m, h, ex⟩
      · exact .inl h
      · exact .inr ⟨m, h, get_old ex⟩
    · exact ⟨rfl, ⟨[_], rfl⟩, q⟩
theorem plain_line_spec (n : Int) (k B : Nat) (f : Nat → Rat) (u : PV) (Q : PV → Prop) {a : Nat} (hn : Sz B n) (hj : Sz B (k : Int)) (hu : below 0 u = true) (l2 : k ≤ 1000000) (ha : ∀ i, i < k → RS a (f i)) (l : (a + ((B + 1) * k + 1) + 1) * k + 1 + a + ((B + 1) * k + 1) ≤ 7000) (q : Q (fr (sig k fun i => f i * (bin n i : Rat)))) :
    F_plain_line [.tup [.tup (frl k f), u], .int n] Q := by
  have hc : ∀ i, i < k → Sz ((B + 1) * k + 1) (bin n i) := fun i hi => (sz_bin hn hj i (by omega)).mono (by have := Nat.mul_le_mul_left (B + 1) (Nat.le_of_lt hi); omega)
  refine ⟨rfl, ?_⟩
  walk_at "w"
  refine choices_spec [] n k B (frl k f) u _ frs_len hn hj (by omega) l2 ?_
  refine slips_spec _ _ 0 k f (bin n) _ (a := a) (.inl rfl) rfl l2 ?_ ha hc (by omega) (rs_lineV hn hj ha (Nat.le_refl _)) (by omega) ⟨rfl, q⟩
  unfold below; exact frs_belows
theorem columns_spec (S : Store) (m : Nat) (n : Int) (k B : Nat) (g : Nat → Rat) (Q : PQ) {a c : Nat} (e : S[m]? = some (frl k g)) (hk : k ≤ 1000) (hn : Sz B n) (hj : Sz B (k : Int)) (ha : ∀ i, i < k → RS a (g i)) (hc : (a + ((B + 1) * k + 1) + 1) * k + 1 ≤ c) (l : a + ((B + 1) * k + 1) + c ≤ 7000)
    (q : ∀ G, Q (.lst S.length) (S ++ frl k (colV k g n) :: G)) : F_columns_at [.lst m, .int n] S Q := by
  unfold F_columns_at
  refine ⟨rfl, ?_⟩
  refine onO_of e ?_
  rw [frs_len]
  refine ⟨by omega, by omega, ?_⟩
  rw [Int.toNat_natCast]
  refine pLcL_grow (fun o => fr (colV k g n o)) (fun _ _ => trivial) (by omega) (fun o ho acc S1 Qk hS hq => ?_) q
  walk_at "w"
  refine onO_of (hS.old e) ?_
  rw [cut_from (by rw [frs_len]; omega), frs_drop]
  refine ⟨by omega, by omega, ?_⟩
  rw [show ((k : Int) - (o : Int)).toNat = k - o by omega]
  have hB : ∀ i, i ≤ k → (B + 1) * i ≤ (B + 1) * k := fun i hi => Nat.mul_le_mul_left _ hi
  refine pLcL_rng (fun j => .int (bin n j)) (fun _ => trivial) (by omega) (fun j hj' acc Qk hq => ?_) ?_
  · exact ⟨rfl, choose_spec n j B _ hn (by unfold Sz at *; omega) (by have := hB j (by omega); omega) (by omega) hq⟩
  have hsk : Sz B ((k - o : Nat) : Int) := by unfold Sz at *; omega
  refine slips_spec _ _ _ (k - o) (fun j => g (o + j)) (bin n) _ (a := a) (b := c) (c := (B + 1) * k + 1) (.inr ⟨_, rfl, get_old get_new⟩) (by exact get_new) (by omega) (by simp [below]) (fun i hi => ha (o + i) (by omega)) (fun i hi => (sz_bin hn hj i (by omega)).mono (by have := hB i (by omega); omega)) (by omega) (fun i hi => ?_) (by omega) ?_
  · refine rs_lineV hn hsk (fun i hi => ha (o + i) (by omega)) ?_ i hi
    have h1 := hB (k - o) (by omega)
    have h2 : (a + ((B + 1) * (k - o) + 1) + 1) * (k - o) ≤ (a + ((B + 1) * k + 1) + 1) * k := Nat.mul_le_mul (by omega) (by omega)
    omega
  · exact hq _ hS.app.app
theorem turned_on_spec (S : Store) (m k : Nat) (c d : Nat → Rat) (Q : PQ) {a : Nat} (e : S[m]? = some (frl k c)) (h1 : 1 ≤ k) (hk : k ≤ 1000) (ha : ∀ i, i < k → RS a (c i)) (l : 2 * a ≤ 8000) (hd : ∀ i, i + 1 < k → d i = c i + c (i + 1)) (hl : d (k - 1) = c (k - 1))
    (q : ∀ S', (∃ G, S' = S ++ G) → Q (.lst S'.length) (S' ++ [frl k d])) : F_turned_on [.lst m] S Q := by
  unfold F_turned_on
  refine ⟨rfl, ?_⟩
  walk_at "w"
  refine onO_of e ?_
  have lm : m < S.length := (List.getElem?_eq_some_iff.mp e).1
  have e1 : cutP (frl k c) (some 1) none = frl (k - 1) fun j => c (j + 1) := by
    have := cut_from (xs := frl k c) (o := 1) (by rw [frs_len]; omega)
    rw [show ((1 : Nat) : Int) = 1 from rfl] at this
    rw [this, frs_drop]
    exact frs_congr fun i _ => by rw [Nat.add_comm]
  rw [e1]
  refine onO_of (get_old e) ?_
  refine onO_of get_new ?_
  unfold frl
  rw [pairs_rng2, show min k (k - 1) = k - 1 by omega]
  refine pLcL_rng (fun j => fr (d j)) (fun acc => ⟨get_old (get_old e), get_old get_new⟩) (by omega) (fun j hj acc Qk hq => ?_) ?_
  · have := ha j (by omega)
    have h2 := ha (j + 1) (by omega)
    rw [hd j (by omega)] at hq
    refine ⟨rfl, ?_⟩
    exact ⟨rfl, plus_spec _ _ _ this h2 (by omega) hq⟩
  · refine onO_of (get_old (get_old e)) ?_
    have e2 : cutP (frl k c) (some (-1)) none = [fr (c (k - 1))] := by
      rw [cut_last (by rw [frs_len]; omega), frs_len, frs_drop, show k - (k - 1) = 1 by omega]
      show [fr (c (k - 1 + 0))] = _
      rw [Nat.add_zero]
    rw [e2]
    refine onO_of (get_old get_new) ?_
    refine onO_of get_new ?_
    have e3 : List.map (fun j => fr (d j)) (List.range (k - 1)) ++ [fr (c (k - 1))] = frl k d := by
      conv => rhs; rw [show k = (k - 1) + 1 by omega]
      rw [frs_next, hl]; rfl
    refine ⟨by simp; omega, ?_⟩
    rw [e3]
    exact q _ ⟨[_, _, _], by rw [List.append_assoc, List.append_assoc]; rfl⟩
theorem rows_turned_spec (k B : Nat) (f h : Nat → Rat) (u : PV) (first : Int) (many : Nat) (Q : PV → Prop) (hk : k ≤ 1000) (k1 : 1 ≤ k) (hm : many ≤ 1000) (hn : ∀ i : Nat, i ≤ many → Sz B (first + i)) (hj : Sz B (k : Int)) {a c : Nat} (ha : ∀ i, i < k → RS a (f i)) (hh : ∀ i, i < k → RS a (h i))
    (hc : (2 * a + 1 + ((B + 1) * k + 1) + 1) * k + 1 ≤ c) (l : 2 * a + 1 + ((B + 1) * k + 1) + 2 * c ≤ 7000) (q : Q (.tup (frl many fun i => lineV k (fun j => f j + h j) (first + i)))) : F_rows_turned [.tup [.tup (frl k f), u], .tup (frl k h), .int first, .int many] Q := by
  have hg : ∀ i, i < k → RS (2 * a + 1) ((fun j => f j + h j) i) := fun i hi => ((ha i hi).add (hh i hi)).mono (by omega)
  have hcol : ∀ n : Int, Sz B n → ∀ o, o < k → RS c (colV k (fun j => f j + h j) n o) := fun n sn o ho => by
    have hsk : Sz B ((k - o : Nat) : Int) := by unfold Sz at *; omega
    refine rs_lineV sn hsk (fun i hi => hg (o + i) (by omega)) ?_ _ (Nat.le_refl _)
    have h0 : (B + 1) * (k - o) ≤ (B + 1) * k := Nat.mul_le_mul_left _ (by omega)
    have h2 : (2 * a + 1 + ((B + 1) * (k - o) + 1) + 1) * (k - o) ≤ (2 * a + 1 + ((B + 1) * k + 1) + 1) * k := Nat.mul_le_mul (by omega) (by omega)
    omega
  refine ⟨rfl, ?_⟩
  walk_at "w"
  dsimp only
  unfold frl
  rw [pairs_rng]
  refine pLcL_rng (S := []) (fun j => fr (f j + h j)) (fun acc => ⟨rfl, rfl⟩) (by omega) (fun j hj' acc Qk hq => ?_) ?_
  · exact ⟨rfl, rfl, plus_spec _ _ _ (ha j hj') (hh j hj') (by omega) hq⟩
  walk_at "w"
  refine columns_spec _ 0 first k B (fun j => f j + h j) _ (a := 2 * a + 1) (c := c) rfl hk (by have := hn 0 (by omega); simpa using this) hj hg hc (by omega) fun G => ?_
  refine ⟨by simp, ?_⟩
  walk_at "w"
  refine ⟨by omega, by omega, ?_⟩
  rw [Int.toNat_natCast]
  refine pForL_range (fun i ρ S => ∃ (m p : Nat) (z1 z2 z3 : Option PV), ρ = [some (.tup [.tup (frl k f), u]), some (.tup (frl k h)), some (.int first), some (.int many), some (.lst 0), z1, z2, some (.lst m), some (.lst p), z3] ∧ S[m]? = some (frl k (colV k (fun j => f j + h j) (first + i))) ∧ S[p]? = some (frl i fun t => colV k (fun j => f j + h j) (first + t) 0) ∧ m ≠ p) ⟨1, _, _, _, _, rfl, ?_, get_new, ?_⟩ ?_ ?_
  · rw [show first + ((0 : Nat) : Int) = first by omega]; rfl
  · simp
  · rintro i ρ S hi ⟨m, p, z1, z2, z3, rfl, hm', hp, hne⟩
    have lp : p < S.length := (List.getElem?_eq_some_iff.mp hp).1
    have s1 := hcol (first + i) (hn i (by omega))
    refine onO_of hm' ?_
    refine onO_of (frs_at (i := 0) (by omega)) ?_
    refine onO_of hp ?_
    refine ⟨by rw [frs_len]; omega, ?_⟩
    have e2 : (S.set p ((frl i fun t => colV k (fun j => f j + h j) (first + t) 0) ++ [fr (colV k (fun j => f j + h j) (first + i) 0)]))[m]? = some (frl k (colV k (fun j => f j + h j) (first + i))) := by rw [List.getElem?_set_ne (by omega)]; exact hm'
    have e3 : (S.set p ((frl i fun t => colV k (fun j => f j + h j) (first + t) 0) ++ [fr (colV k (fun j => f j + h j) (first + i) 0)]))[p]? = some (frl (i + 1) fun t => colV k (fun j => f j + h j) (first + t) 0) := by rw [List.getElem?_set_self lp, frs_next]
    generalize S.set p ((frl i fun t => colV k (fun j => f j + h j) (first + t) 0) ++ [fr (colV k (fun j => f j + h j) (first + i) 0)]) = S2 at *
    have en : first + ((i + 1 : Nat) : Int) = first + i + 1 := by omega
    have lp2 : p < S2.length := (List.getElem?_eq_some_iff.mp e3).1
    refine turned_on_spec S2 m k _ (colV k (fun j => f j + h j) (first + ((i + 1 : Nat) : Int))) _ (a := c) e2 k1 hk s1 (by omega) (fun t ht => ?_) ?_ ?_
    · rw [en, colV_next ht]
    · exact colV_last (by omega)
    · rintro S' ⟨G, rfl⟩
      exact ⟨_, p, _, _, _, rfl, get_new, get_old (get_app e3), by simp; omega⟩
  · rintro ρ S ⟨m, p, z1, z2, z3, rfl, hm', hp, hne⟩
    refine onO_of hp ?_
    refine ⟨by unfold below; exact frs_belows, ?_⟩
    rw [frs_congr (g := fun i => lineV k (fun j => f j + h j) (first + i)) fun i hi => colV_zero]
    exact q
theorem reach_spec (n : Int) (k B : Nat) (f : PV) (u : Nat → Rat) (Q : PV → Prop) {a : Nat} (xs : List PV) (hf : f = .tup xs) (hx : xs.length = k) (hbf : below 0 f = true) (hn : Sz B n) (hj : Sz B (k : Int)) (l2 : k ≤ 1000000) (ha : ∀ i, i < k → RS a (u i)) (l : (a + ((B + 1) * k + 1) + 1) * k + 1 + a + ((B + 1) * k + 1) ≤ 7000) (q : Q (fr (sig k fun i => u i * ((bin n i).natAbs : Rat)))) :
    F_reach_at [.tup [f, .tup (frl k u)], .int n] Q := by
  subst hf
  have hc : ∀ i, i < k → Sz ((B + 1) * k + 1) ((bin n i).natAbs : Int) := fun i hi => by
    have := (sz_bin hn hj i (by omega)).mono (show (B + 1) * i + 1 ≤ (B + 1) * k + 1 by have := Nat.mul_le_mul_left (B + 1) (Nat.le_of_lt hi); omega)
    unfold Sz at *; omega
  have hs : ∀ i, i ≤ k → RS ((a + ((B + 1) * k + 1) + 1) * k + 1) (sig i fun i => u i * (((bin n i).natAbs : Int) : Rat)) := fun i hi => by
    refine (rs_sig (a := a + ((B + 1) * k + 1)) fun t ht => (ha t (by omega)).mul (rs_int (hc t (by omega)) (by omega))).mono ?_
    have := Nat.mul_le_mul_left (a + ((B + 1) * k + 1) + 1) hi
    omega
  refine ⟨rfl, ?_⟩
  walk_at "w"
  refine choices_spec [] n k B xs (.tup (frl k u)) _ hx hn hj (by omega) l2 ?_
  refine onO_of (x := nms k (bin n)) rfl ?_
  refine pLcL_rng (S := [nms k (bin n)]) (fun i => .int ((bin n i).natAbs : Int)) (fun _ => rfl) l2 (fun i hi acc Qk hq => hq) ?_
  walk_at "w"
  refine slips_spec _ _ 1 k u (fun i => ((bin n i).natAbs : Int)) _ (a := a) (.inl rfl) rfl l2 ?_ ha hc (by omega) hs (by omega) ⟨rfl, q⟩
  unfold below; exact frs_belows
theorem stretch_spec (n : Int) (k B : Nat) (f u : Nat → Rat) (Q : PV → Prop) {a : Nat} (hn : Sz B n) (hj : Sz B (k : Int)) (l2 : k ≤ 1000000) (ha : ∀ i, i < k → RS a (f i)) (hu : ∀ i, i < k → RS a (u i)) (l : (a + ((B + 1) * k + 1) + 1) * k + 1 + a + ((B + 1) * k + 1) ≤ 4000)
    (hr : RS 4000 (sig k fun i => u i * ((bin n i).natAbs : Rat)))
    (q : Q (.tup [fr ((sig k fun i => f i * (bin n i : Rat)) - sig k fun i => u i * ((bin n i).natAbs : Rat)), fr ((sig k fun i => f i * (bin n i : Rat)) + sig k fun i => u i * ((bin n i).natAbs : Rat))])) :
    F_stretch [.tup [.tup (frl k f), .tup (frl k u)], .int n] Q := by
  have h1 : RS 4000 (sig k fun i => f i * (bin n i : Rat)) := rs_lineV hn hj ha (by omega) k (Nat.le_refl _)
  have b1 : ∀ g : Nat → Rat, below 0 (.tup (frl k g)) = true := fun g => by unfold below; exact frs_belows
  have bb : belows 0 [PV.tup [PV.tup (frl k f), PV.tup (frl k u)], PV.int n] = true := by simp [belows, below, frs_belows]
  refine ⟨rfl, ?_⟩
  refine ⟨bb, plain_line_spec n k B f _ _ hn hj (b1 u) l2 ha (by omega) ?_⟩
  refine ⟨bb, reach_spec n k B _ u _ _ rfl frs_len (b1 f) hn hj l2 hu (by omega) ?_⟩
  refine ⟨rfl, minus_spec _ _ _ h1 hr (by omega) ?_⟩
  refine ⟨rfl, plus_spec _ _ _ h1 hr (by omega) ?_⟩
  exact ⟨by simp, rfl, q⟩
theorem page_of_spec (k B : Nat) (f h : Nat → Rat) (u : PV) (first : Int) (many : Nat) (places : Int) (mode : Str) (Q : PV → Prop) (hu : below 0 u = true) (hk : k ≤ 1000) (k1 : 1 ≤ k) (hm : many ≤ 1000) (hn : ∀ i : Nat, i ≤ many → Sz B (first + i)) (hj : Sz B (k : Int)) {a c : Nat} (ha : ∀ i, i < k → RS a (f i)) (hh : ∀ i, i < k → RS a (h i)) (p0 : 0 ≤ places) (p1 : places ≤ 40)
    (hc : (2 * a + 1 + ((B + 1) * k + 1) + 1) * k + 1 ≤ c) (l : 2 * a + 1 + ((B + 1) * k + 1) + 2 * c ≤ 7000) (hc2 : c ≤ 2500) (q : Q (.tup ((List.range many).map fun i => .int (prt (lineV k (fun j => f j + h j) (first + (i : Nat))) places mode)))) :
    F_page_of [.tup [.tup [.tup (frl k f), u], .int first, .int many, .int places, .str mode], .tup (frl k h)] Q := by
  refine ⟨rfl, ?_⟩
  refine ⟨rfl, ?_⟩
  refine ⟨by simp [belows, below, frs_belows, hu], rows_turned_spec k B f h u first many _ hk k1 hm hn hj ha hh hc l ?_⟩
  refine pLcL_rng (S := []) (fun i => .int (prt (lineV k (fun j => f j + h j) (first + (i : Nat))) places mode)) (fun _ => trivial) (by omega) (fun i hi acc Qk hq => ?_) ?_
  · have hg : ∀ i, i < k → RS (2 * a + 1) ((fun j => f j + h j) i) := fun i hi => ((ha i hi).add (hh i hi)).mono (by omega)
    exact ⟨rfl, printed_spec _ places mode _ (rs_lineV (hn i (by omega)) hj hg hc k (Nat.le_refl _)) p0 (by omega) (by omega) hq⟩
  · have : ∀ n, belows n ((List.range many).map fun i => PV.int (prt (lineV k (fun j => f j + h j) (first + (i : Nat))) places mode)) = true := fun n => nms_belows (f := fun i : Nat => prt (lineV k (fun j => f j + h j) (first + (i : Nat))) places mode)
    exact ⟨by unfold below; exact this _, ⟨_, rfl⟩, by unfold below; exact this _, q⟩
theorem print_ends_spec (n : Int) (k B : Nat) (f u : Nat → Rat) (first many : PV) (places : Int) (mode : Str) (Q : PV → Prop) {a : Nat} (hn : Sz B n) (hj : Sz B (k : Int)) (l2 : k ≤ 1000000) (ha : ∀ i, i < k → RS a (f i)) (hu : ∀ i, i < k → RS a (u i)) (l : (a + ((B + 1) * k + 1) + 1) * k + 1 + a + ((B + 1) * k + 1) ≤ 1400) (p0 : 0 ≤ places) (p1 : places ≤ 40)
    (q : Q (.tup [.int (prt (lineV k f n - lineW k u n) places mode), .int (prt (lineV k f n + lineW k u n) places mode)])) :
    F_print_ends [.tup [.tup [.tup (frl k f), .tup (frl k u)], first, many, .int places, .str mode], .int n] Q := by
  have rV : RS 1400 (lineV k f n) := rs_lineV hn hj ha (by omega) k (Nat.le_refl _)
  have rW : RS 1400 (lineW k u n) := rs_lineW hn hj hu (by omega) k (Nat.le_refl _)
  refine ⟨rfl, ?_⟩
  refine ⟨by simp [belows, below, frs_belows], stretch_spec n k B f u _ hn hj l2 ha hu (by omega) (rW.mono (by decide)) ?_⟩
  refine ⟨rfl, ?_⟩
  refine ⟨rfl, printed_spec _ places mode _ (rV.sub rW) p0 (by omega) (by decide) ?_⟩
  refine ⟨rfl, printed_spec _ places mode _ (rV.add rW) p0 (by omega) (by decide) ?_⟩
  exact ⟨by simp, rfl, q⟩
theorem can_print_spec (n : Int) (k B : Nat) (f u : Nat → Rat) (first many : PV) (places : Int) (mode : Str) (Q : PV → Prop) {a : Nat} (hb : below 0 first = true) (hb2 : below 0 many = true) (hn : Sz B n) (hj : Sz B (k : Int)) (l2 : k ≤ 1000000) (ha : ∀ i, i < k → RS a (f i)) (hu : ∀ i, i < k → RS a (u i)) (l : (a + ((B + 1) * k + 1) + 1) * k + 1 + a + ((B + 1) * k + 1) ≤ 1400) (p0 : 0 ≤ places) (p1 : places ≤ 40)
    (hr : RgOk (prt (lineV k f n - lineW k u n) places mode) (prt (lineV k f n + lineW k u n) places mode + 1))
    (q : Q (.tup (rgP (prt (lineV k f n - lineW k u n) places mode) (prt (lineV k f n + lineW k u n) places mode + 1)))) :
    F_can_print [.tup [.tup [.tup (frl k f), .tup (frl k u)], first, many, .int places, .str mode], .int n] Q := by
  refine ⟨rfl, ?_⟩
  refine ⟨by simp [belows, below, frs_belows, hb, hb2], print_ends_spec n k B f u first many places mode _ hn hj l2 ha hu l p0 p1 ?_⟩
  refine ⟨rfl, hr, ?_, q⟩
  have : belows 0 (rgP (prt (lineV k f n - lineW k u n) places mode) (prt (lineV k f n + lineW k u n) places mode + 1)) = true := nms_belows (f := fun i : Nat => prt (lineV k f n - lineW k u n) places mode + (i : Int))
  unfold below; exact this
theorem pick_spec (S : Store) (n : Nat) (xs : List PV) (Q : PQ) (e : S[n]? = some xs) (h0 : 0 < xs.length) (h1 : xs.length ≤ 1000000) (hb : belows S.length xs = true) (q : ∀ x ∈ xs, Q x S) : F__law_pick [.bag, .lst n] S Q := by
  unfold F__law_pick
  refine ⟨rfl, ?_⟩
  refine onO_of e ?_
  refine ⟨rfl, P3.draw_spec _ _ (by omega) (by omega) fun r h2 h3 => ?_⟩
  refine onO_of e ?_
  have hr : r.toNat < xs.length := by omega
  refine onO_of (x := xs[r.toNat]) (by rw [atI_get? h2]; simp [hr]) ?_
  exact ⟨belows_mem.mp hb _ (List.getElem_mem hr), ⟨[], by simp⟩, q _ (List.getElem_mem hr)⟩
theorem pick_tup (S : Store) (xs : List PV) (Q : PQ) (h0 : 0 < xs.length) (h1 : xs.length ≤ 1000000) (hb : belows S.length xs = true) (q : ∀ x ∈ xs, Q x S) : F__law_pick [.bag, .tup xs] S Q := by
  unfold F__law_pick
  refine ⟨rfl, ?_⟩
  refine ⟨rfl, P3.draw_spec _ _ (by omega) (by omega) fun r h2 h3 => ?_⟩
  have hr : r.toNat < xs.length := by omega
  refine onO_of (x := xs[r.toNat]) (by rw [atI_get? h2]; simp [hr]) ?_
  exact ⟨belows_mem.mp hb _ (List.getElem_mem hr), ⟨[], by simp⟩, q _ (List.getElem_mem hr)⟩
theorem pick_new {S : Store} {xs : List PV} {Q : PQ} (lo hi : Int) (h0 : 0 < xs.length) (h1 : xs.length ≤ 1000000) (hA : AllIn lo hi xs) (q : ∀ i, lo ≤ i → i ≤ hi → Q (.int i) (S ++ [xs])) : F__law_pick [.bag, .lst S.length] (S ++ [xs]) Q := by
  refine pick_spec (S ++ [xs]) S.length xs Q (by simp) h0 h1 (belows_mem.mpr fun x hx => ?_) fun x hx => ?_
  · obtain ⟨i, rfl, _⟩ := hA.mem x hx; rfl
  · obtain ⟨i, rfl, h2, h3⟩ := hA.mem x hx; exact q i h2 h3
theorem law_gcd_spec (a b : Int) (Q : PV → Prop) (hs : Sz 8000 b) (q : Q (.int ((Int.gcd a b : Nat) : Int))) : F__law_gcd [.int a, .int b] Q := by
  refine ⟨rfl, ?_⟩
  walk_at "w"
  refine ⟨fun k ρ S => ∃ x y : Int, ρ = [some (.int x), some (.int y)] ∧ 0 ≤ x ∧ 0 ≤ y ∧ Int.gcd x y = Int.gcd a b ∧ k = y.toNat, ⟨_, _, _, rfl, by omega, by omega, by simp [Int.gcd], rfl⟩, ?_⟩
  rintro k ρ S ⟨x, y, rfl, hx, hy, hg, rfl⟩
  refine br (fun h => ?_) (fun h => ?_)
  · have h : y ≠ 0 := by simpa using h
    walk_at "w"
    refine ⟨h, ?_⟩
    have hy0 : 0 < y := by omega
    rw [fmod_pos _ hy0]
    have h1 := Int.emod_nonneg x h
    have h2 := Int.emod_lt_of_pos x hy0
    exact ⟨(x % y).toNat, by omega, y, x % y, rfl, hy, h1, by rw [← hg]; exact gcd_step hx hy, rfl⟩
  · have h : y = 0 := by simpa using h
    subst h
    have e : x = ((Int.gcd a b : Nat) : Int) := by rw [← hg, Int.gcd_zero]; omega
    rw [← e] at q
    exact ⟨rfl, q⟩
theorem law_fr_spec (a b : Int) (Q : PV → Prop) (hb : b ≠ 0) (hs : Sz 8000 b) (q : Q (fr (Rat.divInt a b))) : F__law_fr [.int a, .int b] Q := by
  have hg := sz_gcd (a := a) hb hs
  have hg0 := gcd_pos' (a := a) hb
  refine ⟨rfl, ?_⟩
  refine ⟨rfl, law_gcd_spec a b _ hs ?_⟩
  walk_at "w"
  refine br (fun h => ?_) (fun h => ?_)
  · have h := of_decide_eq_true h
    walk_at "w"
    have hd : DivOk (0 - ((Int.gcd a b : Nat) : Int)) := by rw [Int.zero_sub]; exact divOk_sz hg.neg (by decide) (by omega)
    refine ⟨hd, hd, by simp, ?_⟩
    rw [(frac_neg0 h).1, (frac_neg0 h).2]
    exact ⟨rfl, q⟩
  · have h : 0 < b := by have := of_decide_eq_false h; omega
    refine ⟨divOk_sz hg (by decide) (by omega), divOk_sz hg (by decide) (by omega), by simp, ?_⟩
    rw [fdiv_pos _ hg0, fdiv_pos _ hg0, (frac_pos h).1, (frac_pos h).2]
    exact ⟨rfl, q⟩
theorem law_fr_pos_spec (a b : Int) (Q : PV → Prop) (hb : 0 < b) (hs : Sz 8000 b) (q : Q (fr (Rat.divInt a b))) : F__law_fr [.int a, .int b] Q := law_fr_spec a b Q (Int.ne_of_gt hb) hs q
theorem law_plus_spec (x y : Rat) (Q : PV → Prop) {n m : Nat} (hx : RS n x) (hy : RS m y) (h : n + m ≤ 8000) (q : Q (fr (x + y))) : F__law_plus [fr x, fr y] Q := by
  have o := mulOk_fr hx hy (by omega)
  refine ⟨rfl, o.1, o.2.1, o.2.2.1, rfl, law_fr_pos_spec _ _ _ (Int.mul_pos (den_pos' x) (den_pos' y)) ((rs_nums hx hy).1.mono h) ?_⟩
  rw [← rat_add_eq]
  exact ⟨rfl, q⟩
theorem law_minus_spec (x y : Rat) (Q : PV → Prop) {n m : Nat} (hx : RS n x) (hy : RS m y) (h : n + m ≤ 8000) (q : Q (fr (x - y))) : F__law_minus [fr x, fr y] Q := by
  have o := mulOk_fr hx hy (by omega)
  refine ⟨rfl, o.1, o.2.1, o.2.2.1, rfl, law_fr_pos_spec _ _ _ (Int.mul_pos (den_pos' x) (den_pos' y)) ((rs_nums hx hy).1.mono h) ?_⟩
  rw [← rat_sub_eq]
  exact ⟨rfl, q⟩
theorem law_times_spec (x y : Rat) (Q : PV → Prop) {n m : Nat} (hx : RS n x) (hy : RS m y) (h : n + m ≤ 8000) (q : Q (fr (x * y))) : F__law_times [fr x, fr y] Q := by
  have o := mulOk_fr hx hy (by omega)
  refine ⟨rfl, o.2.2.2.1, o.2.2.1, rfl, law_fr_pos_spec _ _ _ (Int.mul_pos (den_pos' x) (den_pos' y)) ((rs_nums hx hy).1.mono h) ?_⟩
  rw [← rat_mul_eq]
  exact ⟨rfl, q⟩
theorem law_below_spec (x y : Rat) (Q : PV → Prop) {n m : Nat} (hx : RS n x) (hy : RS m y) (h : n + m ≤ 8000) (q : Q (.bl (decide (x < y)))) : F__law_below [fr x, fr y] Q := by
  have o := mulOk_fr hx hy (by omega)
  refine ⟨rfl, o.1, o.2.1, ?_⟩
  rw [← below_rat] at q
  exact ⟨rfl, q⟩
theorem law_ten_spec (k : Int) (Q : PV → Prop) (h0 : -2000 ≤ k) (h1 : k ≤ 2000) (q : Q (.int (10 ^ k.toNat))) : F__law_ten [.int k] Q := by
  refine ⟨rfl, ?_⟩
  walk_at "w"
  refine ⟨by omega, by omega, ?_⟩
  refine pForL_range (fun j ρ S => ∃ z, ρ = [some (.int k), some (.int (10 ^ j)), z]) ⟨none, rfl⟩ ?_ ?_
  · rintro j ρ S hj ⟨z, rfl⟩
    walk_at "w"
    exact ⟨mulOk_r (by decide) (by decide), some (.int j), rfl⟩
  · rintro ρ S ⟨z, rfl⟩
    exact ⟨rfl, q⟩
theorem law_printed_spec (x : Rat) (p : Int) (mode : Str) (Q : PV → Prop) {n : Nat} (hx : RS n x) (h0 : 0 ≤ p) (h1 : p ≤ 1000) (hn : n ≤ 3000) (hm : IsMode mode) (q : Q (.int (prn (x * ((10 ^ p.toNat : Int) : Rat)) mode))) : F__law_printed [fr x, .int p, .str mode] Q := by
  have hb := den_pos' x
  have ht := (sz_pow10 p.toNat).mono (show 4 * p.toNat + 1 ≤ 4001 by omega)
  have ha : Sz (n + 4001) (x.num * 10 ^ p.toNat) := hx.1.mul ht
  rw [← prn_law, prn_int _ hb hm] at q
  refine ⟨rfl, ?_⟩
  refine ⟨rfl, law_ten_spec p _ (by omega) (by omega) ?_⟩
  walk_at "w"
  refine ⟨mulOk_sz hx.1 ht (by omega), ?_⟩
  generalize x.num * 10 ^ p.toNat = a at *
  have hbs := hx.2
  have hy := ha.ediv (j := (x.den : Int))
  walk_at "w"
  refine ⟨divOk_sz (a := n) hbs (by omega) (by omega), ?_⟩
  rw [fdiv_pos _ hb]
  generalize a / (x.den : Int) = y at *
  walk_at "w"
  refine ⟨mulOk_sz hy hbs (by omega), ?_⟩
  walk_at "w"
  refine br (fun h => ?_) (fun h => ?_)
  · rw [if_pos (.inl (of_decide_eq_true h))] at q
    exact ⟨rfl, q⟩
  have h := of_decide_eq_false h
  walk_at "w"
  refine ⟨mulOk_l (by decide) (by decide), ?_⟩
  walk_at "w"
  refine br (fun h2 => ?_) (fun h2 => ?_)
  · rw [if_pos (.inr (of_decide_eq_true h2))] at q
    exact ⟨rfl, q⟩
  rw [if_neg (fun z => z.elim h (of_decide_eq_false h2))] at q
  walk_at "w"
  refine ⟨mulOk_l (by decide) (by decide), ?_⟩
  walk_at "w"
  refine br (fun h3 => ?_) (fun h3 => ?_)
  · rw [if_pos (.inl (of_decide_eq_true h3))] at q
    exact ⟨rfl, q⟩
  walk_at "w"
  refine br (fun h4 => ?_) (fun h4 => ?_)
  · rw [if_pos (.inr (of_decide_eq_true h4))] at q
    exact ⟨rfl, q⟩
  rw [if_neg (fun z => z.elim (of_decide_eq_false h3) (of_decide_eq_false h4))] at q
  refine ⟨(show (2 : Int) ≠ 0 by decide), ?_⟩
  rw [fmod_pos _ (show (0 : Int) < 2 by decide)]
  exact ⟨rfl, q⟩
theorem law_stripe_spec (y p : Int) (mode : Str) (Q : PV → Prop) (h0 : 0 ≤ p) (h1 : p ≤ 1000) (hm : IsMode mode) (q : Q (stp y p mode)) : F__law_stripe [.int y, .int p, .str mode] Q := by
  have hp := P3.pow10_pos p.toNat
  have hs := (sz_pow10 p.toNat).mono (show 4 * p.toNat + 1 ≤ 8000 by omega)
  have hs2 := (sz_two10 h1).mono (show 4003 ≤ 8000 by decide)
  unfold stp at q
  refine ⟨rfl, ?_⟩
  refine ⟨rfl, law_ten_spec p _ (by omega) (by omega) ?_⟩
  generalize (10 : Int) ^ p.toNat = u at *
  walk_at "w"
  refine br (fun h => ?_) (fun h => ?_)
  · rw [if_pos (of_decide_eq_true h)] at q
    walk_at "w"
    refine ⟨rfl, law_fr_spec _ _ _ (by omega) hs ?_⟩
    walk_at "w"
    refine ⟨rfl, law_fr_spec _ _ _ (by omega) hs ?_⟩
    exact ⟨by simp, rfl, q⟩
  have h := of_decide_eq_false h
  rw [if_neg h] at q
  refine ⟨(show (2 : Int) ≠ 0 by decide), ?_⟩
  rw [fmod_pos _ (show (0 : Int) < 2 by decide)]
  walk_at "w"
  refine ⟨mulOk_l (by decide) (by decide), ?_⟩
  walk_at "w"
  refine ⟨mulOk_l (by decide) (by decide), ?_⟩
  walk_at "w"
  refine ⟨rfl, law_fr_spec _ _ _ (by omega) hs2 ?_⟩
  walk_at "w"
  refine ⟨mulOk_l (by decide) (by decide), ?_⟩
  walk_at "w"
  refine ⟨mulOk_l (by decide) (by decide), ?_⟩
  walk_at "w"
  refine ⟨rfl, law_fr_spec _ _ _ (by omega) hs2 ?_⟩
  walk_at "w"
  rcases hm with rfl | rfl | rfl
  · rw [if_neg (by decide)] at q
    exact ⟨by simp, rfl, q⟩
  · rw [if_pos rfl] at q
    exact ⟨by simp, rfl, q⟩
  · exact absurd rfl h
theorem sz_facti {B k : Nat} (hk : Sz B (k : Int)) : ∀ j : Nat, j ≤ k → Sz (B * j + 1) (facti j)
  | 0, _ => sz_one (by omega)
  | j + 1, h => by
    have hj : Sz B ((j + 1 : Int)) := by unfold Sz at *; omega
    exact ((sz_facti hk j (by omega)).mul hj).mono (by rw [Nat.mul_add]; omega)
theorem law_choose_spec (n : Int) (j B : Nat) (Q : PV → Prop) (hn : Sz B n) (hj : Sz B (j : Int)) (l : (B + 3) * j ≤ 7000) (l2 : j ≤ 1000000) (q : Q (.int (bin n j))) : F__law_choose [.int n, .int j] Q := by
  have lB : (B + 3) * j = (B + 1) * j + 2 * j := by rw [← Nat.add_mul]
  have lB2 : (B + 1) * j = B * j + j := by rw [Nat.add_mul, Nat.one_mul]
  refine ⟨rfl, ?_⟩
  refine ⟨by simp, rfl, ?_⟩
  refine ⟨by omega, by omega, ?_⟩
  refine pForL_range (fun i ρ S => ∃ z, ρ = [some (.int n), some (.int j), some (.int (ffall n i)), some (.int (facti i)), z]) ⟨_, rfl⟩ ?_ ?_
  · rintro i ρ S hi ⟨z, rfl⟩
    have hi : i < j := by omega
    have hb : B ≤ 7000 := by
      have h1 : (B + 1) * 1 ≤ (B + 1) * j := Nat.mul_le_mul_left _ (by omega)
      omega
    have h2 : (B + 1) * i ≤ (B + 1) * j := Nat.mul_le_mul_left _ (by omega)
    have h3 : B * i ≤ B * j := Nat.mul_le_mul_left _ (by omega)
    have s1 := sz_ffall hn hj i (by omega)
    have s2 : Sz B (i : Int) := by unfold Sz at *; omega
    have s3 := sz_facti hj i (by omega)
    walk_at "w"
    refine ⟨mulOk_sz s1 (hn.sub s2 (Nat.le_refl _) (Nat.le_refl _)) (by omega), ?_⟩
    refine ⟨mulOk_sz s3 (b := 30) (sz_le (b := 1000001) (by omega) (by omega) (by decide)) (by omega), ?_⟩
    exact ⟨_, rfl⟩
  · rintro ρ S ⟨z, rfl⟩
    have s3 := sz_facti hj j (Nat.le_refl _)
    have := facti_pos j
    rw [Int.toNat_natCast]
    refine ⟨divOk_sz s3 (by omega) (by omega), ?_⟩
    rw [bin_whole]
    exact ⟨rfl, q⟩
theorem law_at_spec (n : Int) (k B : Nat) (f h : Nat → Rat) (u : PV) (Q : PV → Prop) {a b : Nat} (hn : Sz B n) (hj : Sz B (k : Int)) (l2 : k ≤ 1000000) (ha : ∀ i, i < k → RS a (f i)) (hh : ∀ i, i < k → RS a (h i)) (lk : (B + 3) * k ≤ 7000)
    (hb : ∀ i, i ≤ k → RS b (sig i fun i => (bin n i : Rat) * (f i + h i))) (l : 2 * a + 1 + ((B + 1) * k + 1) + b ≤ 8000) (q : Q (fr (sig k fun i => (bin n i : Rat) * (f i + h i)))) :
    F__law_at [.tup [.tup (frl k f), u], .tup (frl k h), .int n] Q := by
  refine ⟨rfl, ?_⟩
  walk_at "w"
  refine ⟨by simp, ?_⟩
  walk_at "w"
  rw [frs_len]
  refine ⟨by omega, by omega, ?_⟩
  rw [Int.toNat_natCast]
  refine pForL_range (fun i ρ S => ∃ z, ρ = [some (.tup [.tup (frl k f), u]), some (.tup (frl k h)), some (.int n), some (fr (sig i fun i => (bin n i : Rat) * (f i + h i))), z] ∧ S = []) ⟨_, rfl, rfl⟩ ?_ ?_
  · rintro i ρ S hi ⟨z, rfl, rfl⟩
    have hc : Sz ((B + 1) * k + 1) (bin n i) := (sz_bin hn hj i (by omega)).mono (by have := Nat.mul_le_mul_left (B + 1) (Nat.le_of_lt hi); omega)
    have h3 : (B + 3) * i ≤ (B + 3) * k := Nat.mul_le_mul_left _ (by omega)
    refine ⟨rfl, law_choose_spec n i B _ hn (by unfold Sz at *; omega) (by omega) (by omega) ?_⟩
    walk_at "w"
    refine ⟨by simp, ?_⟩
    refine onO_of (frs_at hi) ?_
    refine onO_of (frs_at hi) ?_
    have s1 := (ha i hi).add (hh i hi)
    refine ⟨rfl, law_plus_spec _ _ _ (ha i hi) (hh i hi) (by omega) ?_⟩
    rw [← fr_int]
    refine ⟨rfl, law_times_spec _ _ _ (rs_int hc (by omega)) s1 (by omega) ?_⟩
    refine ⟨rfl, law_plus_spec _ _ _ (hb i (by omega)) ((rs_int hc (by omega)).mul s1) (by omega) ?_⟩
    exact ⟨_, rfl, rfl⟩
  · rintro ρ S ⟨z, rfl, rfl⟩
    exact ⟨rfl, q⟩
theorem law_no_hand_spec (k : Nat) (f : Nat → Rat) (u : PV) (Q : PV → Prop) (hk : k ≤ 1000) (q : Q (.tup (frl k fun _ => 0))) : F__law_no_hand [.tup [.tup (frl k f), u]] Q := by
  refine ⟨rfl, ?_⟩
  walk_at "w"
  refine pLcL_rng (S := []) (fun i => fr 0) (fun _ => trivial) (by omega) (fun i hi acc Qk hq => ⟨by simp, hq⟩) ?_
  refine ⟨by unfold below; exact frs_belows (f := fun _ => 0), ⟨_, rfl⟩, ?_⟩
  exact ⟨by unfold below; exact frs_belows (f := fun _ => 0), q⟩
theorem law_far_spec (n : Int) (k B : Nat) (f u : Nat → Rat) (Q : PV → Prop) {a b : Nat} (hn : Sz B n) (hj : Sz B (k : Int)) (l2 : k ≤ 1000000) (ha : ∀ i, i < k → RS a (u i)) (lk : (B + 3) * k ≤ 7000)
    (hb : ∀ i, i ≤ k → RS b (sig i fun i => u i * ((bin n i).natAbs : Rat))) (l : a + ((B + 1) * k + 1) + b ≤ 8000) (q : Q (fr (sig k fun i => u i * ((bin n i).natAbs : Rat)))) : F__law_far [.tup [.tup (frl k f), .tup (frl k u)], .int n] Q := by
  refine ⟨rfl, ?_⟩
  walk_at "w"
  refine ⟨by simp, ?_⟩
  walk_at "w"
  rw [frs_len]
  refine ⟨by omega, by omega, ?_⟩
  rw [Int.toNat_natCast]
  refine pForL_range (fun i ρ S => ∃ z, ρ = [some (.tup [.tup (frl k f), .tup (frl k u)]), some (.int n), some (fr (sig i fun i => u i * ((bin n i).natAbs : Rat))), z]) ⟨_, rfl⟩ ?_ ?_
  · rintro i ρ S hi ⟨z, rfl⟩
    have h3 : (B + 3) * i ≤ (B + 3) * k := Nat.mul_le_mul_left _ (by omega)
    have hc : Sz ((B + 1) * k + 1) ((bin n i).natAbs : Int) := by
      have := (sz_bin hn hj i (by omega)).mono (show (B + 1) * i + 1 ≤ (B + 1) * k + 1 by have := Nat.mul_le_mul_left (B + 1) (Nat.le_of_lt hi); omega)
      unfold Sz at *; omega
    refine ⟨rfl, law_choose_spec n i B _ hn (by unfold Sz at *; omega) (by omega) (by omega) ?_⟩
    walk_at "w"
    refine ⟨by simp, ?_⟩
    refine onO_of (frs_at hi) ?_
    rw [← fr_int]
    refine ⟨rfl, law_times_spec _ _ _ (rs_int hc (by omega)) (ha i hi) (by omega) ?_⟩
    refine ⟨rfl, law_plus_spec _ _ _ (hb i (by omega)) ((rs_int hc (by omega)).mul (ha i hi)) (by omega) ?_⟩
    rw [Rat.mul_comm]
    exact ⟨_, rfl⟩
  · rintro ρ S ⟨z, rfl⟩
    exact ⟨rfl, q⟩
theorem law_start_spec (most : Int) (Q : PV → Prop) (m0 : 0 ≤ most) (m1 : most ≤ 10) (q : ∀ (k : Nat) (f u : Nat → Rat), 1 ≤ k → (k : Int) ≤ most + 1 → (∀ i, i < k → RS 20 (f i)) → (∀ i, i < k → RS 20 (u i) ∧ 0 ≤ u i) → Q (.tup [.tup (frl k f), .tup (frl k u)])) : F__law_start [.bag, .int most] Q := by
  have szl : ∀ z : Int, -1000 ≤ z → z ≤ 1000 → Sz 20 z := fun z h1 h2 => sz_le (b := 1000) h1 h2 (by decide)
  refine ⟨rfl, ?_⟩
  refine ⟨rfl, draw_spec _ _ (by omega) (by have : (11 : Int) ≤ 10 ^ 120 := by decide +kernel
                                            omega) fun d d0 d1 => ?_⟩
  have hlen : (List.map (fun k : Nat => PV.int k) (List.range (d + 1).toNat)).length = (d + 1).toNat := by simp
  walk_at "w"
  refine ⟨by omega, by omega, ?_⟩
  refine pLcL_frs (S := []) (R := RS 20) (fun _ _ => trivial) _ (fun i x ex acc S1 Qk hS hq => ?_) (by simp; omega) fun f G hf => ?_
  · walk_at "w"
    refine ⟨rfl, draw_spec _ _ (by decide) (by decide) fun c c0 c1 => ?_⟩
    walk_at "w"
    refine ⟨by simp, ?_⟩
    refine pick_new 1 100 (by simp) (by simp) (by simp only [AllIn]; decide) fun b b0 b1 => ?_
    refine ⟨rfl, law_fr_spec _ _ _ (by omega) ((szl _ (by omega) (by omega)).mono (by decide)) ?_⟩
    exact hq _ _ hS.app (rs_divInt (by omega) (szl _ (by omega) (by omega)) (szl _ (by omega) (by omega)))
  rw [hlen] at hf ⊢
  refine ⟨by unfold below; exact frs_belows, ⟨_, rfl⟩, ?_⟩
  refine ⟨by omega, by omega, ?_⟩
  refine pLcL_frs (S := []) (R := fun r => RS 20 r ∧ 0 ≤ r) (fun _ _ => trivial) _ (fun i x ex acc S1 Qk hS hq => ?_) (by simp; omega) fun u G hu => ?_
  · walk_at "w"
    refine ⟨by simp, ?_⟩
    refine pick_new 0 100 (by simp) (by simp) (by simp only [AllIn]; decide) fun a a0 a1 => ?_
    walk_at "w"
    refine ⟨by simp, ?_⟩
    refine pick_new 100 1000 (by simp) (by simp) (by simp only [AllIn]; decide) fun b b0 b1 => ?_
    refine ⟨rfl, law_fr_spec _ _ _ (by omega) ((szl _ (by omega) (by omega)).mono (by decide)) ?_⟩
    refine hq _ _ hS.app.app ⟨rs_divInt (by omega) (szl _ (by omega) (by omega)) (szl _ (by omega) (by omega)), ?_⟩
    exact Rat.divInt_nonneg (by omega) (by omega)
  rw [hlen] at hu ⊢
  refine ⟨by unfold below; exact frs_belows, ⟨_, rfl⟩, ?_⟩
  refine ⟨by simp, ?_⟩
  exact ⟨by simp [below, belows, frs_belows], q _ f u (by omega) (by omega) hf hu⟩
theorem law_times_pair (x : Rat) (c d : Int) (Q : PV → Prop) {n : Nat} (hx : RS n x) (hc : Sz 4 c) (hd : Sz 4 d) (d0 : 0 < d) (h : n ≤ 7000) (q : Q (fr (x * Rat.divInt c d))) : F__law_times [fr x, .tup [.int c, .int d]] Q := by
  refine ⟨rfl, mulOk_sz hx.1 hc (by omega), mulOk_sz hx.2 hd (by omega), rfl, law_fr_spec _ _ _ (Int.ne_of_gt (Int.mul_pos (den_pos' x) d0)) ((hx.2.mul hd).mono (by omega)) ?_⟩
  have e : x * Rat.divInt c d = Rat.divInt (x.num * c) (x.den * d) := by
    conv => lhs; rw [← Rat.num_divInt_den x]
    rw [Rat.divInt_mul_divInt]
  rw [← e]
  exact ⟨rfl, q⟩
theorem law_hand_spec (k : Nat) (f : PV) (u : Nat → Rat) (Q : PV → Prop) (hk : k ≤ 1000) (hu : ∀ i, i < k → RS 20 (u i) ∧ 0 ≤ u i) (q : ∀ h : Nat → Rat, (∀ i, i < k → RS 30 (h i) ∧ h i ≤ u i ∧ -u i ≤ h i) → Q (.tup (frl k h))) : F__law_hand [.bag, .tup [f, .tup (frl k u)]] Q := by
  have szl : ∀ z : Int, -3 ≤ z → z ≤ 3 → Sz 4 z := fun z h1 h2 => sz_le (b := 3) h1 h2 (by decide)
  refine ⟨rfl, ?_⟩
  refine ⟨by simp, ?_⟩
  walk_at "w"
  refine pForL_range (fun i ρ S => ∃ z xs G, ρ = [some .bag, some (.tup [f, .tup (frl k u)]), some (.lst 0), z] ∧ S = xs :: G ∧ xs.length = i ∧ ∀ (t : Nat) y, xs[t]? = some y → ∃ r, y = fr r ∧ (RS 30 r ∧ r ≤ u t ∧ -u t ≤ r)) ⟨_, [], [], rfl, rfl, rfl, fun t y e => by simp at e⟩ ?_ ?_
  · rintro i ρ S hi ⟨z, xs, G, rfl, rfl, hl, hxs⟩
    obtain ⟨su, u0⟩ := hu i hi
    walk_at "w"
    refine ⟨by simp, by simp, by simp, by simp, by simp, rfl, draw_spec _ _ (by decide) (by decide) fun c c0 c1 => ?_⟩
    walk_at "w"
    refine ⟨rfl, draw_spec _ _ (by decide) (by decide) fun d d0 d1 => ?_⟩
    walk_at "w"
    refine ⟨by simp, by simp, ?_⟩
    refine pick_spec _ _ _ _ get_new (by simp) (by simp) rfl fun x hx => ?_
    have hx : ∃ a b : Int, x = .tup [.int a, .int b] ∧ -3 ≤ a ∧ a ≤ 3 ∧ 1 ≤ b ∧ b ≤ 3 := by
      simp only [List.mem_cons, List.not_mem_nil, or_false] at hx
      rcases hx with rfl | rfl | rfl | rfl | rfl | rfl
      · exact ⟨_, _, rfl, by decide, by decide, by decide, by decide⟩
      · exact ⟨_, _, rfl, by decide, by decide, by decide, by decide⟩
      · exact ⟨_, _, rfl, by decide, by decide, by decide, by decide⟩
      · exact ⟨_, _, rfl, by decide, by decide, by decide, by decide⟩
      · exact ⟨_, _, rfl, by decide, by decide, by decide, by decide⟩
      · exact ⟨_, _, rfl, by omega, by omega, by omega, by omega⟩
    obtain ⟨a, b, rfl, a0, a1, b0, b1⟩ := hx
    refine ⟨rfl, law_times_pair _ a b _ su (szl a a0 a1) (szl b (by omega) b1) (by omega) (by decide) ?_⟩
    have sr : RS 30 (u i * Rat.divInt a b) := (su.mul (rs_divInt (by omega) (szl a a0 a1) (szl b (by omega) b1))).mono (by decide)
    generalize u i * Rat.divInt a b = r at *
    refine onO_of (x := xs) rfl ?_
    refine ⟨by omega, ?_⟩
    walk_at "w"
    refine onO_of atI_last ?_
    refine onO_of atI_last ?_
    refine ⟨by simp, ?_⟩
    have e1 : PV.tup [.int (r.num.natAbs : Int), .int (r.den : Int)] = fr r.abs := fr_abs r
    rw [e1]
    refine ⟨rfl, law_below_spec _ _ _ su (rs_abs sr) (by decide) ?_⟩
    refine br (fun hb => ?_) (fun hb => ?_)
    · refine onO_of setI_last ?_
      refine ⟨_, _, G ++ [_], rfl, rfl, by simp [hl], ?_⟩
      exact snoc_all hxs ⟨_, rfl, by rw [hl]; exact ⟨su.mono (by decide), Rat.le_refl, by grind⟩⟩
    · have hb := abs_le_of (of_decide_eq_false hb)
      refine ⟨_, _, G ++ [_], rfl, rfl, by simp [hl], ?_⟩
      exact snoc_all hxs ⟨_, rfl, by rw [hl]; exact ⟨sr, hb.1, hb.2⟩⟩
  · rintro ρ S ⟨z, xs, G, rfl, rfl, hl, hxs⟩
    obtain ⟨h, e, hh⟩ := frs_of hxs
    rw [hl] at e hh
    walk_at "w"
    rw [e]
    exact ⟨by unfold below; exact frs_belows, q h hh⟩
theorem mode_pick {x : PV} (h : x ∈ [PV.str "up", PV.str "even", PV.str "down"]) : ∃ m : Str, x = .str m ∧ IsMode m := by
  simp only [List.mem_cons, List.not_mem_nil, or_false] at h
  rcases h with rfl | rfl | rfl
  · exact ⟨_, rfl, .inl rfl⟩
  · exact ⟨_, rfl, .inr (.inl rfl)⟩
  · exact ⟨_, rfl, .inr (.inr rfl)⟩
theorem law_page_spec (most : Int) (Q : PV → Prop) (m0 : 0 ≤ most) (m1 : most ≤ 10) (q : ∀ (k many : Nat) (f u : Nat → Rat) (first places : Int) (mode : Str), 1 ≤ k → (k : Int) ≤ most + 1 → 1 ≤ many → many ≤ 12 → (∀ i, i < k → RS 20 (f i)) → (∀ i, i < k → RS 20 (u i) ∧ 0 ≤ u i) → -10 ≤ first → first ≤ 10 → 0 ≤ places → places ≤ 2 → IsMode mode →
    Q (.tup [.tup [.tup (frl k f), .tup (frl k u)], .int first, .int many, .int places, .str mode])) : F__law_page [.bag, .int most] Q := by
  refine ⟨rfl, ?_⟩
  refine ⟨rfl, law_start_spec most _ m0 m1 fun k f u k1 k2 sf su => ?_⟩
  refine ⟨rfl, draw_spec _ _ (by decide) (by decide) fun a a0 a1 => ?_⟩
  refine ⟨rfl, draw_spec _ _ (by decide) (by decide) fun b b0 b1 => ?_⟩
  refine ⟨rfl, draw_spec _ _ (by decide) (by decide) fun c c0 c1 => ?_⟩
  walk_at "w"
  refine ⟨by simp, ?_⟩
  refine pick_spec _ _ _ _ get_new (by simp) (by simp) rfl fun x hx => ?_
  obtain ⟨mode, rfl, hmode⟩ := mode_pick hx
  obtain ⟨many, hM⟩ : ∃ M : Nat, 1 + b = (M : Int) := ⟨(1 + b).toNat, by omega⟩
  rw [hM]
  refine ⟨by simp, ?_, q k many f u _ c mode k1 k2 (by omega) (by omega) sf su (by omega) (by omega) c0 (by omega) hmode⟩
  simp [below, belows, frs_belows]
theorem law_page_of_spec (k B : Nat) (f h : Nat → Rat) (u : PV) (first : Int) (many : Nat) (places : Int) (mode : Str) (Q : PV → Prop) (hu : below 0 u = true) (hk : k ≤ 1000) (hm : many ≤ 1000) (hn : ∀ i : Nat, i ≤ many → Sz B (first + i)) (hj : Sz B (k : Int)) {a c : Nat} (ha : ∀ i, i < k → RS a (f i)) (hh : ∀ i, i < k → RS a (h i)) (p0 : 0 ≤ places) (p1 : places ≤ 40) (md : IsMode mode)
    (hc : (2 * a + 1 + ((B + 1) * k + 1) + 1) * k + 1 ≤ c) (l : 2 * a + 1 + ((B + 1) * k + 1) + c ≤ 7000) (lk : (B + 3) * k ≤ 7000) (hc2 : c ≤ 2500) (q : Q (.tup ((List.range many).map fun i => .int (prt (lineV k (fun j => f j + h j) (first + (i : Nat))) places mode)))) :
    F__law_page_of [.tup [.tup [.tup (frl k f), u], .int first, .int many, .int places, .str mode], .tup (frl k h)] Q := by
  refine ⟨rfl, ?_⟩
  walk_at "w"
  rw [show (first + (many : Int) - first).toNat = many by omega]
  refine pLcL_rng (S := []) (fun i => .int (prt (lineV k (fun j => f j + h j) (first + (i : Nat))) places mode)) (fun _ => trivial) (by omega) (fun i hi acc Qk hq => ?_) ?_
  · have e : (sig k fun t => (bin (first + (i : Nat)) t : Rat) * (f t + h t)) = lineV k (fun j => f j + h j) (first + (i : Nat)) := by
      unfold lineV
      exact sig_congr fun t _ => by grind
    have hg : ∀ i, i < k → RS (2 * a + 1) ((fun j => f j + h j) i) := fun i hi => ((ha i hi).add (hh i hi)).mono (by omega)
    refine ⟨by simp [belows, below, frs_belows, hu], law_at_spec (first + (i : Nat)) k B f h u _ (a := a) (b := c) (hn i (by omega)) hj (by omega) ha hh lk (fun t ht => rs_lineA (hn i (by omega)) hj ha hh hc t ht) (by omega) ?_⟩
    rw [e]
    exact ⟨rfl, law_printed_spec _ places mode _ (rs_lineV (hn i (by omega)) hj hg hc k (Nat.le_refl _)) p0 (by omega) (by omega) md hq⟩
  · have : ∀ n, belows n ((List.range many).map fun i => PV.int (prt (lineV k (fun j => f j + h j) (first + (i : Nat))) places mode)) = true := fun n => nms_belows (f := fun i : Nat => prt (lineV k (fun j => f j + h j) (first + (i : Nat))) places mode)
    exact ⟨by unfold below; exact this _, ⟨_, rfl⟩, by unfold below; exact this _, q⟩
theorem stp_one (y : Int) (mode : Str) (h0 : -30 ≤ y) (h1 : y ≤ 30) : ∃ (a b : Rat) (c d : PV), stp y 1 mode = .tup [fr a, fr b, c, d] ∧ RS 10 a ∧ RS 10 b := by
  have szl : ∀ z : Int, -100 ≤ z → z ≤ 100 → Sz 10 z := fun z h1 h2 => sz_le (b := 100) h1 h2 (by decide)
  have e : (10 : Int) ^ (1 : Int).toNat = 10 := rfl
  unfold stp
  rw [e]
  split
  · exact ⟨_, _, _, _, rfl, rs_divInt (by omega) (szl _ (by omega) (by omega)) (szl _ (by omega) (by omega)), rs_divInt (by omega) (szl _ (by omega) (by omega)) (szl _ (by omega) (by omega))⟩
  · split
    · exact ⟨_, _, _, _, rfl, rs_divInt (by omega) (szl _ (by omega) (by omega)) (szl _ (by omega) (by omega)), rs_divInt (by omega) (szl _ (by omega) (by omega)) (szl _ (by omega) (by omega))⟩
    · exact ⟨_, _, _, _, rfl, rs_divInt (by omega) (szl _ (by omega) (by omega)) (szl _ (by omega) (by omega)), rs_divInt (by omega) (szl _ (by omega) (by omega)) (szl _ (by omega) (by omega))⟩
theorem law_touching_spec (mode : Str) (Q : PV → Prop) (md : IsMode mode) (q : ∀ (k many : Nat) (f u : Nat → Rat) (first places : Int), 1 ≤ k → k ≤ 2 → 1 ≤ many → many ≤ 12 → (∀ i, i < k → RS 20 (f i)) → (∀ i, i < k → RS 20 (u i) ∧ 0 ≤ u i) → -10 ≤ first → first ≤ 10 → 0 ≤ places → places ≤ 2 →
    Q (.tup [.tup [.tup (frl k f), .tup (frl k u)], .int first, .int many, .int places, .str mode])) : F__law_touching [.bag, .str mode] Q := by
  have szl : ∀ z : Int, -100 ≤ z → z ≤ 100 → Sz 8 z := fun z h1 h2 => sz_le (b := 100) h1 h2 (by decide)
  refine ⟨rfl, ?_⟩
  refine ⟨rfl, draw_spec _ _ (by decide) (by decide) fun y y0 y1 => ?_⟩
  refine ⟨rfl, draw_spec _ _ (by decide) (by decide) fun d d0 d1 => ?_⟩
  refine ⟨rfl, law_fr_spec _ _ _ (by decide) (sz_le (b := 10) (by decide) (by decide) (by decide +kernel)) ?_⟩
  have hu : RS 8 (Rat.divInt (1 + d) 10) := rs_divInt (by decide) (szl _ (by omega) (by omega)) (szl _ (by decide) (by decide))
  have hu0 : 0 ≤ Rat.divInt (1 + d) 10 := Rat.divInt_nonneg (by omega) (by decide)
  generalize Rat.divInt (1 + d) 10 = un at *
  refine ⟨rfl, law_stripe_spec _ 1 mode _ (by decide) (by decide) md ?_⟩
  refine ⟨rfl, draw_spec _ _ (by decide) (by decide) fun w w0 w1 => ?_⟩
  obtain ⟨a, b, c, e, es, ra, rb⟩ := stp_one (y - 20) mode (by omega) (by omega)
  dsimp only
  rw [es]
  have he : ∃ z, atI [fr a, fr b, c, e] w = some (fr z) ∧ RS 10 z := by
    have : w = 0 ∨ w = 1 := by omega
    rcases this with rfl | rfl
    · exact ⟨a, atI_z, ra⟩
    · exact ⟨b, atI_1, rb⟩
  obtain ⟨z, ez, rz⟩ := he
  refine onO_of ez ?_
  dsimp only
  refine s_seq (fun ρ _ => ∃ v z6, RS 20 v ∧ ρ = [some .bag, some (.str mode), some (.int (y - 20)), some (fr un), some (fr z), some (fr v), z6]) ?_ ?_
  · refine ⟨rfl, draw_spec _ _ (by decide) (by decide) fun s s0 s1 => ?_⟩
    refine br (fun hb => ?_) (fun hb => ?_)
    · exact ⟨rfl, law_minus_spec _ _ _ rz hu (by decide) ⟨_, _, (rz.sub hu).mono (by decide), rfl⟩⟩
    · exact ⟨rfl, law_plus_spec _ _ _ rz hu (by decide) ⟨_, _, (rz.add hu).mono (by decide), rfl⟩⟩
  rintro ρ S ⟨v, z6, rv, rfl⟩
  have fin : ∀ (k : Nat) (xs ys : List PV) (f u : Nat → Rat) (g : Int), 1 ≤ k → k ≤ 2 → xs = frl k f → ys = frl k u → (∀ i, i < k → RS 20 (f i)) → (∀ i, i < k → RS 20 (u i) ∧ 0 ≤ u i) → 0 ≤ g → g < 4 → [PV.tup [.tup xs, .tup ys], .int (0 - g), .int 5, .int 1, .str mode].length ≤ 16777216 ∧ below 0 (.tup [.tup [.tup xs, .tup ys], .int (0 - g), .int 5, .int 1, .str mode]) = true ∧ Q (.tup [.tup [.tup xs, .tup ys], .int (0 - g), .int 5, .int 1, .str mode]) := by
    rintro k xs ys f u g k1 k2 rfl rfl hf hu g0 g1
    exact ⟨by simp, by simp [below, belows, frs_belows], q k 5 f u (0 - g) 1 k1 k2 (by decide) (by decide) hf hu (by omega) (by omega) (by decide) (by decide)⟩
  refine s_seq (fun ρ _ => ∃ t, (t = PV.tup [.tup [fr 0], .tup [fr 0]] ∨ t = .tup [.tup [], .tup []]) ∧ ρ = [some .bag, some (.str mode), some (.int (y - 20)), some (fr un), some (fr z), some (fr v), some t]) ?_ ?_
  · refine ⟨rfl, draw_spec _ _ (by decide) (by decide) fun s s0 s1 => ?_⟩
    refine br (fun hb => ?_) (fun hb => ?_)
    · exact ⟨by simp, by simp, by simp, by simp, by simp, ⟨_, .inl rfl, rfl⟩⟩
    · exact ⟨by simp, by simp, by simp, ⟨_, .inr rfl, rfl⟩⟩
  rintro ρ S ⟨t, ht, rfl⟩
  rcases ht with rfl | rfl
  · refine ⟨by simp, by simp, by simp, by simp, by simp, rfl, draw_spec _ _ (by decide) (by decide) fun g g0 g1 => ?_⟩
    refine fin 2 _ _ (fun i => if i = 0 then v else 0) (fun i => if i = 0 then un else 0) g (by decide) (by decide) rfl rfl (fun i hi => ?_) (fun i hi => ?_) g0 g1
    · split
      · exact rv
      · exact ⟨sz_pos _, sz_one (by decide)⟩
    · split
      · exact ⟨hu.mono (by decide), hu0⟩
      · exact ⟨⟨sz_pos _, sz_one (by decide)⟩, Rat.le_refl⟩
  · refine ⟨by simp, by simp, by simp, by simp, by simp, rfl, draw_spec _ _ (by decide) (by decide) fun g g0 g1 => ?_⟩
    exact fin 1 _ _ (fun i => v) (fun i => un) g (by decide) (by decide) rfl rfl (fun i hi => rv) (fun i hi => ⟨hu.mono (by decide), hu0⟩) g0 g1
theorem is_told_spec (k many : Nat) (f u : Nat → Rat) (first places : Int) (mode : Str) (by_ : Bool) (Q : PV → Prop) (k1 : 1 ≤ k) (hk : k ≤ 5) (m1 : 1 ≤ many) (m2 : many ≤ 12) (sf0 : ∀ i, i < k → RS 20 (f i)) (su : ∀ i, i < k → RS 20 (u i) ∧ 0 ≤ u i) (f0 : -10 ≤ first) (f1 : first ≤ 10) (p0 : 0 ≤ places) (p1 : places ≤ 2) (md : IsMode mode) (q : Q (.bl true)) :
    F__law_is_told [.bag, .tup [.tup [.tup (frl k f), .tup (frl k u)], .int first, .int many, .int places, .str mode], .bl by_] Q := by
  have sf : ∀ i, i < k → RS 30 (f i) := fun i hi => (sf0 i hi).mono (by decide)
  have hu : ∀ i, i < k → RS 30 (u i) := fun i hi => (su i hi).1.mono (by decide)
  have sk : Sz 7 (k : Int) := sz_le (b := 100) (by omega) (by omega) (by decide)
  have b3 : belows 0 [PV.bag, PV.tup [PV.tup (frl k f), PV.tup (frl k u)]] = true := by simp [belows, below, frs_belows]
  have bt : below 0 (PV.tup (frl k u)) = true := by simp [below, frs_belows]
  have btf : below 0 (PV.tup (frl k f)) = true := by simp [below, frs_belows]
  have q1 : (30 + ((7 + 1) * k + 1) + 1) * k ≤ 72 * 5 := Nat.mul_le_mul (by omega) hk
  have q2 : (2 * 30 + 1 + ((7 + 1) * k + 1) + 1) * k ≤ 103 * 5 := Nat.mul_le_mul (by omega) hk
  refine ⟨rfl, ?_⟩
  walk_at "w"
  refine ⟨by omega, by omega, ?_⟩
  refine pForL_range (fun j ρ S => ∃ a6 a7 a8 a9 a10 a11 a12 a13, ρ = [some .bag, some (.tup [.tup [.tup (frl k f), .tup (frl k u)], .int first, .int many, .int places, .str mode]), some (.bl by_), some (.tup [.tup (frl k f), .tup (frl k u)]), some (.int places), some (.str mode), a6, a7, a8, a9, a10, a11, a12, a13]) ⟨_, _, _, _, _, _, _, _, rfl⟩ ?_ ?_
  · rintro j ρ S hj ⟨a6, a7, a8, a9, a10, a11, a12, a13, rfl⟩
    refine ⟨b3, law_hand_spec k _ u _ (by omega) su fun h hh => ?_⟩
    have sh : ∀ i, i < k → RS 30 (h i) := fun i hi => (hh i hi).1
    have bp : belows 0 [PV.tup [.tup [.tup (frl k f), .tup (frl k u)], .int first, .int many, .int places, .str mode], .tup (frl k h)] = true := by simp [belows, below, frs_belows]
    have sn : ∀ i : Nat, i ≤ many → Sz 7 (first + i) := fun i hi => sz_le (b := 100) (by omega) (by omega) (by decide)
    have go : ∀ Q : PV → Prop, Q (.tup ((List.range many).map fun i => .int (prt (lineV k (fun j => f j + h j) (first + (i : Nat))) places mode))) → F_page_of [.tup [.tup [.tup (frl k f), .tup (frl k u)], .int first, .int many, .int places, .str mode], .tup (frl k h)] Q := fun Q q =>
      page_of_spec k 7 f h _ first many places mode Q bt (by omega) k1 (by omega) sn sk (a := 30) (c := 600) sf sh p0 (by omega) (by omega) (by omega) (by omega) q
    have bpg : below 0 (PV.tup ((List.range many).map fun i => .int (prt (lineV k (fun j => f j + h j) (first + (i : Nat))) places mode))) = true := nms_belows (f := fun i : Nat => prt (lineV k (fun j => f j + h j) (first + (i : Nat))) places mode)
    dsimp only
    refine s_seq (fun ρ _ => ρ = [some .bag, some (.tup [.tup [.tup (frl k f), .tup (frl k u)], .int first, .int many, .int places, .str mode]), some (.bl by_), some (.tup [.tup (frl k f), .tup (frl k u)]), some (.int places), some (.str mode), some (.int j), some (.tup (frl k h)), some (.tup ((List.range many).map fun i => .int (prt (lineV k (fun j => f j + h j) (first + (i : Nat))) places mode))), a9, a10, a11, a12, a13]) ?_ ?_
    · refine br (fun hb => ?_) (fun hb => ?_)
      · exact ⟨rfl, rfl, bp, go _ rfl⟩
      · exact ⟨bp, go _ rfl⟩
    rintro ρ S' rfl
    refine ⟨bp, law_page_of_spec k 7 f h _ first many places mode _ bt (by omega) (by omega) sn sk (a := 30) (c := 600) sf sh p0 (by omega) md (by omega) (by omega) (by omega) (by omega) ?_⟩
    have b2 : ∀ x : PV, below 0 x = true → belows 0 [x, x] = true := fun x hx => by simp [belows, hx]
    refine ⟨b2 _ bpg, same_of rfl ?_ ?_⟩
    · have : dats true 5 ((List.range many).map fun i => PV.int (prt (lineV k (fun j => f j + h j) (first + (i : Nat))) places mode)) = true := nms_dats (f := fun i : Nat => prt (lineV k (fun j => f j + h j) (first + (i : Nat))) places mode)
      simp [dat, this]
      omega
    exact ⟨_, _, _, _, _, _, _, _, rfl⟩
  · rintro ρ S ⟨a6, a7, a8, a9, a10, a11, a12, a13, rfl⟩
    walk_at "w"
    refine ⟨rfl, draw_spec _ _ (by omega) (by have : (12 : Int) ≤ 10 ^ 120 := by decide +kernel
                                              omega) fun n1 n10 n11 => ?_⟩
    refine ⟨rfl, draw_spec _ _ (by decide) (by decide) fun n2 n20 n21 => ?_⟩
    refine ⟨by simp, ?_⟩
    refine pForL_mem (fun ρ S => ∃ a6 a7 a8 a9 a10 a11 a12 a13, ρ = [some .bag, some (.tup [.tup [.tup (frl k f), .tup (frl k u)], .int first, .int many, .int places, .str mode]), some (.bl by_), some (.tup [.tup (frl k f), .tup (frl k u)]), some (.int places), some (.str mode), a6, a7, a8, a9, a10, a11, a12, a13]) ⟨_, _, _, _, _, _, _, _, rfl⟩ (fun _ _ _ => trivial) ?_ ?_
    · rintro x ρ S hx ⟨a6, a7, a8, a9, a10, a11, a12, a13, rfl⟩
      have hx : ∃ n : Int, x = .int n ∧ -50 ≤ n ∧ n ≤ 50 := by
        simp only [List.mem_cons, List.not_mem_nil, or_false] at hx
        rcases hx with rfl | rfl | rfl
        · exact ⟨_, rfl, by omega, by omega⟩
        · exact ⟨_, rfl, by omega, by omega⟩
        · exact ⟨_, rfl, by omega, by omega⟩
      obtain ⟨n, rfl, h1, h2⟩ := hx
      have sn : Sz 7 n := sz_le (b := 100) (by omega) (by omega) (by decide)
      have s0 : ∀ i, i < k → RS 30 ((fun _ => 0 : Nat → Rat) i) := fun i hi => ⟨sz_pos _, sz_one (by decide)⟩
      have bs : ∀ h : Nat → Rat, belows 0 [PV.tup [PV.tup (frl k f), PV.tup (frl k u)], PV.tup (frl k h), PV.int n] = true := fun h => by simp [belows, below, frs_belows]
      have b1 : belows 0 [PV.tup [PV.tup (frl k f), PV.tup (frl k u)]] = true := by simp [belows, below, frs_belows]
      have b2 : belows 0 [PV.tup [PV.tup (frl k f), PV.tup (frl k u)], PV.int n] = true := by simp [belows, below, frs_belows]
      have bp : belows 0 [PV.tup [.tup [.tup (frl k f), .tup (frl k u)], .int first, .int many, .int places, .str mode], .int n] = true := by simp [belows, below, frs_belows]
      have rV : RS 600 (lineV k f n) := rs_lineV sn sk sf (by omega) k (Nat.le_refl _)
      have rW : RS 600 (lineW k u n) := rs_lineW sn sk hu (by omega) k (Nat.le_refl _)
      have at_ : ∀ (h : Nat → Rat) (x : Rat) (Q : PV → Prop), (∀ i, i < k → RS 30 (h i)) → x = lineV k f n + lineV k h n → Q (fr x) → F__law_at [.tup [.tup (frl k f), .tup (frl k u)], .tup (frl k h), .int n] Q := fun h x Q sh e q => by
        subst e
        refine law_at_spec n k 7 f h _ Q (a := 30) (b := 600) sn sk (by omega) sf sh (by omega) (fun i hi => rs_lineA sn sk sf sh (by omega) i hi) (by omega) ?_
        rw [at_hand]; exact q
      refine ⟨b1, law_no_hand_spec k f _ _ (by omega) ?_⟩
      refine ⟨bs _, at_ _ (lineV k f n) _ s0 (by rw [line_none, Rat.add_zero]) ?_⟩
      refine ⟨b2, law_far_spec n k 7 f u _ (a := 30) (b := 600) sn sk (by omega) hu (by omega) (fun i hi => rs_lineW sn sk hu (by omega) i hi) (by omega) ?_⟩
      have eW : (sig k fun i => u i * ((bin n i).natAbs : Rat)) = lineW k u n := rfl
      rw [eW]
      refine ⟨rfl, law_minus_spec _ _ _ rV rW (by omega) ?_⟩
      refine ⟨rfl, law_printed_spec _ places mode _ (rV.sub rW) p0 (by omega) (by decide) md ?_⟩
      refine ⟨rfl, law_plus_spec _ _ _ rV rW (by omega) ?_⟩
      refine ⟨rfl, law_printed_spec _ places mode _ (rV.add rW) p0 (by omega) (by decide) md ?_⟩
      have eL : prn ((lineV k f n - lineW k u n) * ((10 ^ places.toNat : Int) : Rat)) mode = prt (lineV k f n - lineW k u n) places mode := rfl
      have eM : prn ((lineV k f n + lineW k u n) * ((10 ^ places.toNat : Int) : Rat)) mode = prt (lineV k f n + lineW k u n) places mode := rfl
      rw [eL, eM]
      generalize hlo : prt (lineV k f n - lineW k u n) places mode = lo at *
      generalize hhi : prt (lineV k f n + lineW k u n) places mode = hi at *
      have hbin : ∀ i, i < k → ((bin n i).natAbs : Int) ≤ 2 ^ 29 := fun i hi => bin_le (B := 6) (k := 4) (m := 29) (sz_le (b := 50) (by omega) (by omega) (by decide)) (by unfold Sz; decide) (by decide) i (by omega)
      have hV := lineV_le (k := k) (f := f) (n := n) (a := 2 ^ 20) (b := 2 ^ 29) (by decide) (fun i hi => ⟨(rs_le (sf0 i hi)).2, (rs_le (sf0 i hi)).1⟩) hbin
      have hW := lineW_le (k := k) (u := u) (n := n) (a := 2 ^ 20) (b := 2 ^ 29) (by decide) (fun i hi => (rs_le (su i hi).1).2) hbin
      have hW0 : 0 ≤ lineW k u n := by
        have := sig_le (k := k) (f := fun _ => 0) (g := fun i => u i * ((bin n i).natAbs : Rat)) fun i hi => Rat.mul_nonneg (su i hi).2 (by exact_mod_cast Nat.zero_le _)
        rw [sig_zero] at this
        exact this
      have hc : (((k : Int) * (2 ^ 20 * 2 ^ 29) : Int) : Rat) ≤ ((5 * 2 ^ 49 : Int) : Rat) := by
        have : (k : Int) * (2 ^ 20 * 2 ^ 29) ≤ 5 * 2 ^ 49 := by omega
        exact Rat.intCast_le_intCast.mpr this
      have hc2 : ((10 * 2 ^ 49 : Int) : Rat) = ((5 * 2 ^ 49 : Int) : Rat) + ((5 * 2 ^ 49 : Int) : Rat) := by rw [← Rat.intCast_add]; rfl
      have hp : (10 : Int) ^ places.toNat ≤ 100 ∧ 1 ≤ (10 : Int) ^ places.toNat := by
        have : places = 0 ∨ places = 1 ∨ places = 2 := by omega
        rcases this with rfl | rfl | rfl <;> decide
      have inn : ∀ x : Rat, x ≤ ((10 * 2 ^ 49 : Int) : Rat) → -((10 * 2 ^ 49 : Int) : Rat) ≤ x → prt x places mode ≤ 1000 * 2 ^ 49 ∧ -(1000 * 2 ^ 49) ≤ prt x places mode := fun x x1 x2 => by
        have := prt_in x1 x2 places mode
        generalize (10 : Int) ^ places.toNat = t at *
        omega
      have ilo := inn (lineV k f n - lineW k u n) (by rw [hc2]; grind) (by rw [hc2]; grind)
      have ihi := inn (lineV k f n + lineW k u n) (by rw [hc2]; grind) (by rw [hc2]; grind)
      have hle : lo ≤ hi := by rw [← hlo, ← hhi]; exact prt_le (by grind) places mode
      rw [hlo] at ilo
      rw [hhi] at ihi
      dsimp only
      refine br (fun hb => ?_) (fun hb => ?_)
      · exact ⟨_, _, _, _, _, _, _, _, rfl⟩
      have hb : ¬ 900 < hi - lo := of_decide_eq_false hb
      have rg : RgOk lo (hi + 1) := ⟨by omega, by omega, by omega, by omega, by omega⟩
      have go : ∀ Q : PV → Prop, Q (.tup (rgP lo (hi + 1))) → F_can_print [.tup [.tup [.tup (frl k f), .tup (frl k u)], .int first, .int many, .int places, .str mode], .int n] Q := fun Q q =>
        can_print_spec n k 7 f u _ _ places mode Q (a := 30) rfl rfl sn sk (by omega) sf hu (by omega) p0 (by omega) (by rw [hlo, hhi]; exact rg) (by rw [hlo, hhi]; exact q)
      have bg : below 0 (PV.tup (rgP lo (hi + 1))) = true := nms_belows (f := fun i : Nat => lo + (i : Int))
      dsimp only [pNext]
      refine s_seq (fun ρ _ => ∃ a10 a11, ρ = [some .bag, some (.tup [.tup [.tup (frl k f), .tup (frl k u)], .int first, .int many, .int places, .str mode]), some (.bl by_), some (.tup [.tup (frl k f), .tup (frl k u)]), some (.int places), some (.str mode), a6, a7, some (.tup (rgP lo (hi + 1))), some (.int n), a10, a11, some (.int lo), some (.int hi)]) ?_ ?_
      · refine br (fun hb => ?_) (fun hb => ?_)
        · exact ⟨rfl, rfl, bp, go _ ⟨_, _, rfl⟩⟩
        · exact ⟨bp, go _ ⟨_, _, rfl⟩⟩
      rintro ρ S' ⟨a10, a11, rfl⟩
      refine ⟨rg, by simp [belows, bg], same_of rfl ?_ ?_⟩
      · have : dats true 5 (rgP lo (hi + 1)) = true := nms_dats (f := fun i : Nat => lo + (i : Int))
        exact dat_tup (by unfold rgP; rw [List.length_map, List.length_range]; omega) this
      refine ⟨b3, law_hand_spec k _ u _ (by omega) su fun h hh => ?_⟩
      have sh : ∀ i, i < k → RS 30 (h i) := fun i hi => (hh i hi).1
      refine ⟨bs h, at_ h _ _ sh rfl ?_⟩
      have rH : RS 600 (lineV k h n) := rs_lineV sn sk sh (by omega) k (Nat.le_refl _)
      refine ⟨rfl, law_printed_spec _ places mode _ (rV.add rH) p0 (by omega) (by decide) md ?_⟩
      have hin := line_in n fun i hi => (hh i hi).2
      have i1 : lo ≤ prt (lineV k f n + lineV k h n) places mode := by rw [← hlo]; exact prt_le (by grind) places mode
      have i2 : prt (lineV k f n + lineV k h n) places mode < hi + 1 := by
        have : prt (lineV k f n + lineV k h n) places mode ≤ hi := by rw [← hhi]; exact prt_le (by grind) places mode
        omega
      have eP : prn ((lineV k f n + lineV k h n) * ((10 ^ places.toNat : Int) : Rat)) mode = prt (lineV k f n + lineV k h n) places mode := rfl
      rw [eP]
      refine onO_of (svs_nms (f := fun i : Nat => lo + (i : Int))) ?_
      rw [inV_rg i1 i2]
      exact ⟨_, _, _, _, _, _, _, _, rfl⟩
    · rintro ρ S ⟨a6, a7, a8, a9, a10, a11, a12, a13, rfl⟩
      exact ⟨rfl, q⟩
theorem law_plain (ns : List Int) (hl : ns.length ≤ 63) : B_law noX { nx := fun _ _ => False, rt := fun r _ => r = .bl true } ((start0 N_law.length [.rol (ns.map PV.int)]).set 1 (some .bag)) [] := by
  walk_at "w"
  refine ⟨by omega, by omega, ?_⟩
  refine pForL_range (fun j ρ S => ∃ a2 a3, ρ = [some (.rol (ns.map PV.int)), some .bag, a2, a3]) ⟨_, _, rfl⟩ ?_ ?_
  · rintro j ρ S hj ⟨a2, a3, rfl⟩
    generalize hW : (some (PV.rol (List.map PV.int ns))) = W
    refine s_seq (fun ρ _ => ∃ (k many : Nat) (f u : Nat → Rat) (first places : Int) (mode : Str), ρ = [W, some .bag, some (.int j), some (.tup [.tup [.tup (frl k f), .tup (frl k u)], .int first, .int many, .int places, .str mode])] ∧ 1 ≤ k ∧ k ≤ 5 ∧ 1 ≤ many ∧ many ≤ 12 ∧ (∀ i, i < k → RS 20 (f i)) ∧ (∀ i, i < k → RS 20 (u i) ∧ 0 ≤ u i) ∧ -10 ≤ first ∧ first ≤ 10 ∧ 0 ≤ places ∧ places ≤ 2 ∧ IsMode mode) ?_ ?_
    · refine br (fun hb => ?_) (fun hb => ?_)
      · exact ⟨rfl, law_page_spec 4 _ (by decide) (by decide) fun k many f u first places mode k1 k2 m1 m2 sf su f0 f1 p0 p1 md => ⟨k, many, f, u, first, places, mode, rfl, k1, by omega, m1, m2, sf, su, f0, f1, p0, p1, md⟩⟩
      · refine ⟨by simp, ?_⟩
        refine pick_spec _ _ _ _ get_new (by simp) (by simp) rfl fun x hx => ?_
        obtain ⟨mode, rfl, md⟩ := mode_pick hx
        exact ⟨rfl, law_touching_spec mode _ md fun k many f u first places k1 k2 m1 m2 sf su f0 f1 p0 p1 => ⟨k, many, f, u, first, places, mode, rfl, k1, by omega, m1, m2, sf, su, f0, f1, p0, p1, md⟩⟩
    rintro ρ S' ⟨k, many, f, u, first, places, mode, rfl, k1, k2, m1, m2, sf, su, f0, f1, p0, p1, md⟩
    refine ⟨by simp [belows, below, frs_belows], is_told_spec k many f u first places mode _ _ k1 k2 m1 m2 sf su f0 f1 p0 p1 md ?_⟩
    exact ⟨_, _, rfl⟩
  · rintro ρ S ⟨a2, a3, rfl⟩
    rfl
end Lawk11
namespace Lawk11
open PySem PySem.Spec PyProof.Rows L2 L2.P3
section
variable {P : Program} {w : World} {K : PySem.W.Frag} {mg : Str → Option Value} {base : Heap}
theorem ok_law (T : Txt K mg) : FnOk P w K mg base CX0 10 T.f_law T.d_law ["script"] (spLaw K) :=
  law_top (N := N_law) T.F_law sc_law (by decide) rfl (ok__law_bag T) (by decide) T.m__law_bag T.F__law_bag.kp T.b__law_bag
    (fun cdv A outer s H E hr => ⟨_, ps_set (i := 1) sc_law.nd rfl (Or.inl rfl) (pe_call (ok__law_bag T) (hr.mono (by decide)) (by rfl) T.m__law_bag T.F__law_bag.kp T.b__law_bag .nil pass0 (pa_cons (pv 0) pa_nil)), fun D σ H q => q⟩)
    (fun cdv A outer s H E hr => ok_law_body T cdv A outer s H E hr) law_plain
end
theorem all_mk {l : PySem.W.OpenLaw} {w : World} {K : PySem.W.Frag} {h : Heap} {mg : Str → Option Value} {fa : Addr} (X : K.In h) (G : h.Ns mainGlobals mg) (hfa : mg "law" = some (.ref fa))
    {f_0 : Addr} {oc_0 kV_0 dc_0 pm_0 cd_0 ct_0 : Value} {od_0 an_0 : Option Addr} {sl_0 : Array (Option Value)}
    (a_0 : PySem.W.nsIn K mainGlobals "frac" = some (some (.ref f_0))) (l_0 : K.lookup f_0 = some ⟨oc_0, od_0, .func (PySem.W.fnOf "frac" "frac" (defArgs s_frac) (defBody s_frac) (defScope s_frac) .none kV_0 dc_0 pm_0 an_0 cd_0 ct_0), sl_0⟩) (c_0 : PySem.W.codeIn K cd_0 "frac" = true) (k_0 : PySem.W.keepIn K (.ref f_0) = true)
    {f_1 : Addr} {oc_1 kV_1 dc_1 pm_1 cd_1 ct_1 : Value} {od_1 an_1 : Option Addr} {sl_1 : Array (Option Value)}
    (a_1 : PySem.W.nsIn K mainGlobals "whole" = some (some (.ref f_1))) (l_1 : K.lookup f_1 = some ⟨oc_1, od_1, .func (PySem.W.fnOf "whole" "whole" (defArgs s_whole) (defBody s_whole) (defScope s_whole) .none kV_1 dc_1 pm_1 an_1 cd_1 ct_1), sl_1⟩) (c_1 : PySem.W.codeIn K cd_1 "whole" = true) (k_1 : PySem.W.keepIn K (.ref f_1) = true)
    {f_2 : Addr} {oc_2 kV_2 dc_2 pm_2 cd_2 ct_2 : Value} {od_2 an_2 : Option Addr} {sl_2 : Array (Option Value)}
    (a_2 : PySem.W.nsIn K mainGlobals "plus" = some (some (.ref f_2))) (l_2 : K.lookup f_2 = some ⟨oc_2, od_2, .func (PySem.W.fnOf "plus" "plus" (defArgs s_plus) (defBody s_plus) (defScope s_plus) .none kV_2 dc_2 pm_2 an_2 cd_2 ct_2), sl_2⟩) (c_2 : PySem.W.codeIn K cd_2 "plus" = true) (k_2 : PySem.W.keepIn K (.ref f_2) = true)
    {f_3 : Addr} {oc_3 kV_3 dc_3 pm_3 cd_3 ct_3 : Value} {od_3 an_3 : Option Addr} {sl_3 : Array (Option Value)}
    (a_3 : PySem.W.nsIn K mainGlobals "minus" = some (some (.ref f_3))) (l_3 : K.lookup f_3 = some ⟨oc_3, od_3, .func (PySem.W.fnOf "minus" "minus" (defArgs s_minus) (defBody s_minus) (defScope s_minus) .none kV_3 dc_3 pm_3 an_3 cd_3 ct_3), sl_3⟩) (c_3 : PySem.W.codeIn K cd_3 "minus" = true) (k_3 : PySem.W.keepIn K (.ref f_3) = true)
    {f_4 : Addr} {oc_4 kV_4 dc_4 pm_4 cd_4 ct_4 : Value} {od_4 an_4 : Option Addr} {sl_4 : Array (Option Value)}
    (a_4 : PySem.W.nsIn K mainGlobals "times" = some (some (.ref f_4))) (l_4 : K.lookup f_4 = some ⟨oc_4, od_4, .func (PySem.W.fnOf "times" "times" (defArgs s_times) (defBody s_times) (defScope s_times) .none kV_4 dc_4 pm_4 an_4 cd_4 ct_4), sl_4⟩) (c_4 : PySem.W.codeIn K cd_4 "times" = true) (k_4 : PySem.W.keepIn K (.ref f_4) = true)
    {f_5 : Addr} {oc_5 kV_5 dc_5 pm_5 cd_5 ct_5 : Value} {od_5 an_5 : Option Addr} {sl_5 : Array (Option Value)}
    (a_5 : PySem.W.nsIn K mainGlobals "floor_of" = some (some (.ref f_5))) (l_5 : K.lookup f_5 = some ⟨oc_5, od_5, .func (PySem.W.fnOf "floor_of" "floor_of" (defArgs s_floor_of) (defBody s_floor_of) (defScope s_floor_of) .none kV_5 dc_5 pm_5 an_5 cd_5 ct_5), sl_5⟩) (c_5 : PySem.W.codeIn K cd_5 "floor_of" = true) (k_5 : PySem.W.keepIn K (.ref f_5) = true)
    {f_6 : Addr} {oc_6 kV_6 dc_6 pm_6 cd_6 ct_6 : Value} {od_6 an_6 : Option Addr} {sl_6 : Array (Option Value)}
    (a_6 : PySem.W.nsIn K mainGlobals "total_of" = some (some (.ref f_6))) (l_6 : K.lookup f_6 = some ⟨oc_6, od_6, .func (PySem.W.fnOf "total_of" "total_of" (defArgs s_total_of) (defBody s_total_of) (defScope s_total_of) .none kV_6 dc_6 pm_6 an_6 cd_6 ct_6), sl_6⟩) (c_6 : PySem.W.codeIn K cd_6 "total_of" = true) (k_6 : PySem.W.keepIn K (.ref f_6) = true)
    {f_7 : Addr} {oc_7 kV_7 dc_7 pm_7 cd_7 ct_7 : Value} {od_7 an_7 : Option Addr} {sl_7 : Array (Option Value)}
    (a_7 : PySem.W.nsIn K mainGlobals "product_sum" = some (some (.ref f_7))) (l_7 : K.lookup f_7 = some ⟨oc_7, od_7, .func (PySem.W.fnOf "product_sum" "product_sum" (defArgs s_product_sum) (defBody s_product_sum) (defScope s_product_sum) .none kV_7 dc_7 pm_7 an_7 cd_7 ct_7), sl_7⟩) (c_7 : PySem.W.codeIn K cd_7 "product_sum" = true) (k_7 : PySem.W.keepIn K (.ref f_7) = true)
    {f_8 : Addr} {oc_8 kV_8 dc_8 pm_8 cd_8 ct_8 : Value} {od_8 an_8 : Option Addr} {sl_8 : Array (Option Value)}
    (a_8 : PySem.W.nsIn K mainGlobals "tens" = some (some (.ref f_8))) (l_8 : K.lookup f_8 = some ⟨oc_8, od_8, .func (PySem.W.fnOf "tens" "tens" (defArgs s_tens) (defBody s_tens) (defScope s_tens) .none kV_8 dc_8 pm_8 an_8 cd_8 ct_8), sl_8⟩) (c_8 : PySem.W.codeIn K cd_8 "tens" = true) (k_8 : PySem.W.keepIn K (.ref f_8) = true)
    {f_9 : Addr} {oc_9 kV_9 dc_9 pm_9 cd_9 ct_9 : Value} {od_9 an_9 : Option Addr} {sl_9 : Array (Option Value)}
    (a_9 : PySem.W.nsIn K mainGlobals "choose" = some (some (.ref f_9))) (l_9 : K.lookup f_9 = some ⟨oc_9, od_9, .func (PySem.W.fnOf "choose" "choose" (defArgs s_choose) (defBody s_choose) (defScope s_choose) .none kV_9 dc_9 pm_9 an_9 cd_9 ct_9), sl_9⟩) (c_9 : PySem.W.codeIn K cd_9 "choose" = true) (k_9 : PySem.W.keepIn K (.ref f_9) = true)
    {f_10 : Addr} {oc_10 kV_10 dc_10 pm_10 cd_10 ct_10 : Value} {od_10 an_10 : Option Addr} {sl_10 : Array (Option Value)}
    (a_10 : PySem.W.nsIn K mainGlobals "printed" = some (some (.ref f_10))) (l_10 : K.lookup f_10 = some ⟨oc_10, od_10, .func (PySem.W.fnOf "printed" "printed" (defArgs s_printed) (defBody s_printed) (defScope s_printed) .none kV_10 dc_10 pm_10 an_10 cd_10 ct_10), sl_10⟩) (c_10 : PySem.W.codeIn K cd_10 "printed" = true) (k_10 : PySem.W.keepIn K (.ref f_10) = true)
    {f_11 : Addr} {oc_11 kV_11 dc_11 pm_11 cd_11 ct_11 : Value} {od_11 an_11 : Option Addr} {sl_11 : Array (Option Value)}
    (a_11 : PySem.W.nsIn K mainGlobals "choices_at" = some (some (.ref f_11))) (l_11 : K.lookup f_11 = some ⟨oc_11, od_11, .func (PySem.W.fnOf "choices_at" "choices_at" (defArgs s_choices_at) (defBody s_choices_at) (defScope s_choices_at) .none kV_11 dc_11 pm_11 an_11 cd_11 ct_11), sl_11⟩) (c_11 : PySem.W.codeIn K cd_11 "choices_at" = true) (k_11 : PySem.W.keepIn K (.ref f_11) = true)
    {f_12 : Addr} {oc_12 kV_12 dc_12 pm_12 cd_12 ct_12 : Value} {od_12 an_12 : Option Addr} {sl_12 : Array (Option Value)}
    (a_12 : PySem.W.nsIn K mainGlobals "slips_summed" = some (some (.ref f_12))) (l_12 : K.lookup f_12 = some ⟨oc_12, od_12, .func (PySem.W.fnOf "slips_summed" "slips_summed" (defArgs s_slips_summed) (defBody s_slips_summed) (defScope s_slips_summed) .none kV_12 dc_12 pm_12 an_12 cd_12 ct_12), sl_12⟩) (c_12 : PySem.W.codeIn K cd_12 "slips_summed" = true) (k_12 : PySem.W.keepIn K (.ref f_12) = true)
    {f_13 : Addr} {oc_13 kV_13 dc_13 pm_13 cd_13 ct_13 : Value} {od_13 an_13 : Option Addr} {sl_13 : Array (Option Value)}
    (a_13 : PySem.W.nsIn K mainGlobals "plain_line" = some (some (.ref f_13))) (l_13 : K.lookup f_13 = some ⟨oc_13, od_13, .func (PySem.W.fnOf "plain_line" "plain_line" (defArgs s_plain_line) (defBody s_plain_line) (defScope s_plain_line) .none kV_13 dc_13 pm_13 an_13 cd_13 ct_13), sl_13⟩) (c_13 : PySem.W.codeIn K cd_13 "plain_line" = true) (k_13 : PySem.W.keepIn K (.ref f_13) = true)
    {f_14 : Addr} {oc_14 kV_14 dc_14 pm_14 cd_14 ct_14 : Value} {od_14 an_14 : Option Addr} {sl_14 : Array (Option Value)}
    (a_14 : PySem.W.nsIn K mainGlobals "columns_at" = some (some (.ref f_14))) (l_14 : K.lookup f_14 = some ⟨oc_14, od_14, .func (PySem.W.fnOf "columns_at" "columns_at" (defArgs s_columns_at) (defBody s_columns_at) (defScope s_columns_at) .none kV_14 dc_14 pm_14 an_14 cd_14 ct_14), sl_14⟩) (c_14 : PySem.W.codeIn K cd_14 "columns_at" = true) (k_14 : PySem.W.keepIn K (.ref f_14) = true)
    {f_15 : Addr} {oc_15 kV_15 dc_15 pm_15 cd_15 ct_15 : Value} {od_15 an_15 : Option Addr} {sl_15 : Array (Option Value)}
    (a_15 : PySem.W.nsIn K mainGlobals "turned_on" = some (some (.ref f_15))) (l_15 : K.lookup f_15 = some ⟨oc_15, od_15, .func (PySem.W.fnOf "turned_on" "turned_on" (defArgs s_turned_on) (defBody s_turned_on) (defScope s_turned_on) .none kV_15 dc_15 pm_15 an_15 cd_15 ct_15), sl_15⟩) (c_15 : PySem.W.codeIn K cd_15 "turned_on" = true) (k_15 : PySem.W.keepIn K (.ref f_15) = true)
    {f_16 : Addr} {oc_16 kV_16 dc_16 pm_16 cd_16 ct_16 : Value} {od_16 an_16 : Option Addr} {sl_16 : Array (Option Value)}
    (a_16 : PySem.W.nsIn K mainGlobals "rows_turned" = some (some (.ref f_16))) (l_16 : K.lookup f_16 = some ⟨oc_16, od_16, .func (PySem.W.fnOf "rows_turned" "rows_turned" (defArgs s_rows_turned) (defBody s_rows_turned) (defScope s_rows_turned) .none kV_16 dc_16 pm_16 an_16 cd_16 ct_16), sl_16⟩) (c_16 : PySem.W.codeIn K cd_16 "rows_turned" = true) (k_16 : PySem.W.keepIn K (.ref f_16) = true)
    {f_17 : Addr} {oc_17 kV_17 dc_17 pm_17 cd_17 ct_17 : Value} {od_17 an_17 : Option Addr} {sl_17 : Array (Option Value)}
    (a_17 : PySem.W.nsIn K mainGlobals "reach_at" = some (some (.ref f_17))) (l_17 : K.lookup f_17 = some ⟨oc_17, od_17, .func (PySem.W.fnOf "reach_at" "reach_at" (defArgs s_reach_at) (defBody s_reach_at) (defScope s_reach_at) .none kV_17 dc_17 pm_17 an_17 cd_17 ct_17), sl_17⟩) (c_17 : PySem.W.codeIn K cd_17 "reach_at" = true) (k_17 : PySem.W.keepIn K (.ref f_17) = true)
    {f_18 : Addr} {oc_18 kV_18 dc_18 pm_18 cd_18 ct_18 : Value} {od_18 an_18 : Option Addr} {sl_18 : Array (Option Value)}
    (a_18 : PySem.W.nsIn K mainGlobals "stretch" = some (some (.ref f_18))) (l_18 : K.lookup f_18 = some ⟨oc_18, od_18, .func (PySem.W.fnOf "stretch" "stretch" (defArgs s_stretch) (defBody s_stretch) (defScope s_stretch) .none kV_18 dc_18 pm_18 an_18 cd_18 ct_18), sl_18⟩) (c_18 : PySem.W.codeIn K cd_18 "stretch" = true) (k_18 : PySem.W.keepIn K (.ref f_18) = true)
    {f_19 : Addr} {oc_19 kV_19 dc_19 pm_19 cd_19 ct_19 : Value} {od_19 an_19 : Option Addr} {sl_19 : Array (Option Value)}
    (a_19 : PySem.W.nsIn K mainGlobals "page_of" = some (some (.ref f_19))) (l_19 : K.lookup f_19 = some ⟨oc_19, od_19, .func (PySem.W.fnOf "page_of" "page_of" (defArgs s_page_of) (defBody s_page_of) (defScope s_page_of) .none kV_19 dc_19 pm_19 an_19 cd_19 ct_19), sl_19⟩) (c_19 : PySem.W.codeIn K cd_19 "page_of" = true) (k_19 : PySem.W.keepIn K (.ref f_19) = true)
    {f_20 : Addr} {oc_20 kV_20 dc_20 pm_20 cd_20 ct_20 : Value} {od_20 an_20 : Option Addr} {sl_20 : Array (Option Value)}
    (a_20 : PySem.W.nsIn K mainGlobals "print_ends" = some (some (.ref f_20))) (l_20 : K.lookup f_20 = some ⟨oc_20, od_20, .func (PySem.W.fnOf "print_ends" "print_ends" (defArgs s_print_ends) (defBody s_print_ends) (defScope s_print_ends) .none kV_20 dc_20 pm_20 an_20 cd_20 ct_20), sl_20⟩) (c_20 : PySem.W.codeIn K cd_20 "print_ends" = true) (k_20 : PySem.W.keepIn K (.ref f_20) = true)
    {f_21 : Addr} {oc_21 kV_21 dc_21 pm_21 cd_21 ct_21 : Value} {od_21 an_21 : Option Addr} {sl_21 : Array (Option Value)}
    (a_21 : PySem.W.nsIn K mainGlobals "can_print" = some (some (.ref f_21))) (l_21 : K.lookup f_21 = some ⟨oc_21, od_21, .func (PySem.W.fnOf "can_print" "can_print" (defArgs s_can_print) (defBody s_can_print) (defScope s_can_print) .none kV_21 dc_21 pm_21 an_21 cd_21 ct_21), sl_21⟩) (c_21 : PySem.W.codeIn K cd_21 "can_print" = true) (k_21 : PySem.W.keepIn K (.ref f_21) = true)
    {f_22 : Addr} {oc_22 kV_22 dc_22 pm_22 cd_22 ct_22 : Value} {od_22 an_22 : Option Addr} {sl_22 : Array (Option Value)}
    (a_22 : PySem.W.nsIn K mainGlobals "_law_bag" = some (some (.ref f_22))) (l_22 : K.lookup f_22 = some ⟨oc_22, od_22, .func (PySem.W.fnOf "_law_bag" "_law_bag" (defArgs s__law_bag) (defBody s__law_bag) (defScope s__law_bag) .none kV_22 dc_22 pm_22 an_22 cd_22 ct_22), sl_22⟩) (c_22 : PySem.W.codeIn K cd_22 "_law_bag" = true) (k_22 : PySem.W.keepIn K (.ref f_22) = true)
    {f_23 : Addr} {oc_23 kV_23 dc_23 pm_23 cd_23 ct_23 : Value} {od_23 an_23 : Option Addr} {sl_23 : Array (Option Value)}
    (a_23 : PySem.W.nsIn K mainGlobals "_law_draw" = some (some (.ref f_23))) (l_23 : K.lookup f_23 = some ⟨oc_23, od_23, .func (PySem.W.fnOf "_law_draw" "_law_draw" (defArgs s__law_draw) (defBody s__law_draw) (defScope s__law_draw) .none kV_23 dc_23 pm_23 an_23 cd_23 ct_23), sl_23⟩) (c_23 : PySem.W.codeIn K cd_23 "_law_draw" = true) (k_23 : PySem.W.keepIn K (.ref f_23) = true)
    {f_24 : Addr} {oc_24 kV_24 dc_24 pm_24 cd_24 ct_24 : Value} {od_24 an_24 : Option Addr} {sl_24 : Array (Option Value)}
    (a_24 : PySem.W.nsIn K mainGlobals "_law_pick" = some (some (.ref f_24))) (l_24 : K.lookup f_24 = some ⟨oc_24, od_24, .func (PySem.W.fnOf "_law_pick" "_law_pick" (defArgs s__law_pick) (defBody s__law_pick) (defScope s__law_pick) .none kV_24 dc_24 pm_24 an_24 cd_24 ct_24), sl_24⟩) (c_24 : PySem.W.codeIn K cd_24 "_law_pick" = true) (k_24 : PySem.W.keepIn K (.ref f_24) = true)
    {f_25 : Addr} {oc_25 kV_25 dc_25 pm_25 cd_25 ct_25 : Value} {od_25 an_25 : Option Addr} {sl_25 : Array (Option Value)}
    (a_25 : PySem.W.nsIn K mainGlobals "_law_same" = some (some (.ref f_25))) (l_25 : K.lookup f_25 = some ⟨oc_25, od_25, .func (PySem.W.fnOf "_law_same" "_law_same" (defArgs s__law_same) (defBody s__law_same) (defScope s__law_same) .none kV_25 dc_25 pm_25 an_25 cd_25 ct_25), sl_25⟩) (c_25 : PySem.W.codeIn K cd_25 "_law_same" = true) (k_25 : PySem.W.keepIn K (.ref f_25) = true)
    {f_26 : Addr} {oc_26 kV_26 dc_26 pm_26 cd_26 ct_26 : Value} {od_26 an_26 : Option Addr} {sl_26 : Array (Option Value)}
    (a_26 : PySem.W.nsIn K mainGlobals "_law_gcd" = some (some (.ref f_26))) (l_26 : K.lookup f_26 = some ⟨oc_26, od_26, .func (PySem.W.fnOf "_law_gcd" "_law_gcd" (defArgs s__law_gcd) (defBody s__law_gcd) (defScope s__law_gcd) .none kV_26 dc_26 pm_26 an_26 cd_26 ct_26), sl_26⟩) (c_26 : PySem.W.codeIn K cd_26 "_law_gcd" = true) (k_26 : PySem.W.keepIn K (.ref f_26) = true)
    {f_27 : Addr} {oc_27 kV_27 dc_27 pm_27 cd_27 ct_27 : Value} {od_27 an_27 : Option Addr} {sl_27 : Array (Option Value)}
    (a_27 : PySem.W.nsIn K mainGlobals "_law_fr" = some (some (.ref f_27))) (l_27 : K.lookup f_27 = some ⟨oc_27, od_27, .func (PySem.W.fnOf "_law_fr" "_law_fr" (defArgs s__law_fr) (defBody s__law_fr) (defScope s__law_fr) .none kV_27 dc_27 pm_27 an_27 cd_27 ct_27), sl_27⟩) (c_27 : PySem.W.codeIn K cd_27 "_law_fr" = true) (k_27 : PySem.W.keepIn K (.ref f_27) = true)
    {f_28 : Addr} {oc_28 kV_28 dc_28 pm_28 cd_28 ct_28 : Value} {od_28 an_28 : Option Addr} {sl_28 : Array (Option Value)}
    (a_28 : PySem.W.nsIn K mainGlobals "_law_plus" = some (some (.ref f_28))) (l_28 : K.lookup f_28 = some ⟨oc_28, od_28, .func (PySem.W.fnOf "_law_plus" "_law_plus" (defArgs s__law_plus) (defBody s__law_plus) (defScope s__law_plus) .none kV_28 dc_28 pm_28 an_28 cd_28 ct_28), sl_28⟩) (c_28 : PySem.W.codeIn K cd_28 "_law_plus" = true) (k_28 : PySem.W.keepIn K (.ref f_28) = true)
    {f_29 : Addr} {oc_29 kV_29 dc_29 pm_29 cd_29 ct_29 : Value} {od_29 an_29 : Option Addr} {sl_29 : Array (Option Value)}
    (a_29 : PySem.W.nsIn K mainGlobals "_law_minus" = some (some (.ref f_29))) (l_29 : K.lookup f_29 = some ⟨oc_29, od_29, .func (PySem.W.fnOf "_law_minus" "_law_minus" (defArgs s__law_minus) (defBody s__law_minus) (defScope s__law_minus) .none kV_29 dc_29 pm_29 an_29 cd_29 ct_29), sl_29⟩) (c_29 : PySem.W.codeIn K cd_29 "_law_minus" = true) (k_29 : PySem.W.keepIn K (.ref f_29) = true)
    {f_30 : Addr} {oc_30 kV_30 dc_30 pm_30 cd_30 ct_30 : Value} {od_30 an_30 : Option Addr} {sl_30 : Array (Option Value)}
    (a_30 : PySem.W.nsIn K mainGlobals "_law_times" = some (some (.ref f_30))) (l_30 : K.lookup f_30 = some ⟨oc_30, od_30, .func (PySem.W.fnOf "_law_times" "_law_times" (defArgs s__law_times) (defBody s__law_times) (defScope s__law_times) .none kV_30 dc_30 pm_30 an_30 cd_30 ct_30), sl_30⟩) (c_30 : PySem.W.codeIn K cd_30 "_law_times" = true) (k_30 : PySem.W.keepIn K (.ref f_30) = true)
    {f_31 : Addr} {oc_31 kV_31 dc_31 pm_31 cd_31 ct_31 : Value} {od_31 an_31 : Option Addr} {sl_31 : Array (Option Value)}
    (a_31 : PySem.W.nsIn K mainGlobals "_law_below" = some (some (.ref f_31))) (l_31 : K.lookup f_31 = some ⟨oc_31, od_31, .func (PySem.W.fnOf "_law_below" "_law_below" (defArgs s__law_below) (defBody s__law_below) (defScope s__law_below) .none kV_31 dc_31 pm_31 an_31 cd_31 ct_31), sl_31⟩) (c_31 : PySem.W.codeIn K cd_31 "_law_below" = true) (k_31 : PySem.W.keepIn K (.ref f_31) = true)
    {f_32 : Addr} {oc_32 kV_32 dc_32 pm_32 cd_32 ct_32 : Value} {od_32 an_32 : Option Addr} {sl_32 : Array (Option Value)}
    (a_32 : PySem.W.nsIn K mainGlobals "_law_ten" = some (some (.ref f_32))) (l_32 : K.lookup f_32 = some ⟨oc_32, od_32, .func (PySem.W.fnOf "_law_ten" "_law_ten" (defArgs s__law_ten) (defBody s__law_ten) (defScope s__law_ten) .none kV_32 dc_32 pm_32 an_32 cd_32 ct_32), sl_32⟩) (c_32 : PySem.W.codeIn K cd_32 "_law_ten" = true) (k_32 : PySem.W.keepIn K (.ref f_32) = true)
    {f_33 : Addr} {oc_33 kV_33 dc_33 pm_33 cd_33 ct_33 : Value} {od_33 an_33 : Option Addr} {sl_33 : Array (Option Value)}
    (a_33 : PySem.W.nsIn K mainGlobals "_law_printed" = some (some (.ref f_33))) (l_33 : K.lookup f_33 = some ⟨oc_33, od_33, .func (PySem.W.fnOf "_law_printed" "_law_printed" (defArgs s__law_printed) (defBody s__law_printed) (defScope s__law_printed) .none kV_33 dc_33 pm_33 an_33 cd_33 ct_33), sl_33⟩) (c_33 : PySem.W.codeIn K cd_33 "_law_printed" = true) (k_33 : PySem.W.keepIn K (.ref f_33) = true)
    {f_34 : Addr} {oc_34 kV_34 dc_34 pm_34 cd_34 ct_34 : Value} {od_34 an_34 : Option Addr} {sl_34 : Array (Option Value)}
    (a_34 : PySem.W.nsIn K mainGlobals "_law_stripe" = some (some (.ref f_34))) (l_34 : K.lookup f_34 = some ⟨oc_34, od_34, .func (PySem.W.fnOf "_law_stripe" "_law_stripe" (defArgs s__law_stripe) (defBody s__law_stripe) (defScope s__law_stripe) .none kV_34 dc_34 pm_34 an_34 cd_34 ct_34), sl_34⟩) (c_34 : PySem.W.codeIn K cd_34 "_law_stripe" = true) (k_34 : PySem.W.keepIn K (.ref f_34) = true)
    {f_35 : Addr} {oc_35 kV_35 dc_35 pm_35 cd_35 ct_35 : Value} {od_35 an_35 : Option Addr} {sl_35 : Array (Option Value)}
    (a_35 : PySem.W.nsIn K mainGlobals "_law_choose" = some (some (.ref f_35))) (l_35 : K.lookup f_35 = some ⟨oc_35, od_35, .func (PySem.W.fnOf "_law_choose" "_law_choose" (defArgs s__law_choose) (defBody s__law_choose) (defScope s__law_choose) .none kV_35 dc_35 pm_35 an_35 cd_35 ct_35), sl_35⟩) (c_35 : PySem.W.codeIn K cd_35 "_law_choose" = true) (k_35 : PySem.W.keepIn K (.ref f_35) = true)
    {f_36 : Addr} {oc_36 kV_36 dc_36 pm_36 cd_36 ct_36 : Value} {od_36 an_36 : Option Addr} {sl_36 : Array (Option Value)}
    (a_36 : PySem.W.nsIn K mainGlobals "_law_at" = some (some (.ref f_36))) (l_36 : K.lookup f_36 = some ⟨oc_36, od_36, .func (PySem.W.fnOf "_law_at" "_law_at" (defArgs s__law_at) (defBody s__law_at) (defScope s__law_at) .none kV_36 dc_36 pm_36 an_36 cd_36 ct_36), sl_36⟩) (c_36 : PySem.W.codeIn K cd_36 "_law_at" = true) (k_36 : PySem.W.keepIn K (.ref f_36) = true)
    {f_37 : Addr} {oc_37 kV_37 dc_37 pm_37 cd_37 ct_37 : Value} {od_37 an_37 : Option Addr} {sl_37 : Array (Option Value)}
    (a_37 : PySem.W.nsIn K mainGlobals "_law_no_hand" = some (some (.ref f_37))) (l_37 : K.lookup f_37 = some ⟨oc_37, od_37, .func (PySem.W.fnOf "_law_no_hand" "_law_no_hand" (defArgs s__law_no_hand) (defBody s__law_no_hand) (defScope s__law_no_hand) .none kV_37 dc_37 pm_37 an_37 cd_37 ct_37), sl_37⟩) (c_37 : PySem.W.codeIn K cd_37 "_law_no_hand" = true) (k_37 : PySem.W.keepIn K (.ref f_37) = true)
    {f_38 : Addr} {oc_38 kV_38 dc_38 pm_38 cd_38 ct_38 : Value} {od_38 an_38 : Option Addr} {sl_38 : Array (Option Value)}
    (a_38 : PySem.W.nsIn K mainGlobals "_law_far" = some (some (.ref f_38))) (l_38 : K.lookup f_38 = some ⟨oc_38, od_38, .func (PySem.W.fnOf "_law_far" "_law_far" (defArgs s__law_far) (defBody s__law_far) (defScope s__law_far) .none kV_38 dc_38 pm_38 an_38 cd_38 ct_38), sl_38⟩) (c_38 : PySem.W.codeIn K cd_38 "_law_far" = true) (k_38 : PySem.W.keepIn K (.ref f_38) = true)
    {f_39 : Addr} {oc_39 kV_39 dc_39 pm_39 cd_39 ct_39 : Value} {od_39 an_39 : Option Addr} {sl_39 : Array (Option Value)}
    (a_39 : PySem.W.nsIn K mainGlobals "_law_start" = some (some (.ref f_39))) (l_39 : K.lookup f_39 = some ⟨oc_39, od_39, .func (PySem.W.fnOf "_law_start" "_law_start" (defArgs s__law_start) (defBody s__law_start) (defScope s__law_start) .none kV_39 dc_39 pm_39 an_39 cd_39 ct_39), sl_39⟩) (c_39 : PySem.W.codeIn K cd_39 "_law_start" = true) (k_39 : PySem.W.keepIn K (.ref f_39) = true)
    {f_40 : Addr} {oc_40 kV_40 dc_40 pm_40 cd_40 ct_40 : Value} {od_40 an_40 : Option Addr} {sl_40 : Array (Option Value)}
    (a_40 : PySem.W.nsIn K mainGlobals "_law_hand" = some (some (.ref f_40))) (l_40 : K.lookup f_40 = some ⟨oc_40, od_40, .func (PySem.W.fnOf "_law_hand" "_law_hand" (defArgs s__law_hand) (defBody s__law_hand) (defScope s__law_hand) .none kV_40 dc_40 pm_40 an_40 cd_40 ct_40), sl_40⟩) (c_40 : PySem.W.codeIn K cd_40 "_law_hand" = true) (k_40 : PySem.W.keepIn K (.ref f_40) = true)
    {f_41 : Addr} {oc_41 kV_41 dc_41 pm_41 cd_41 ct_41 : Value} {od_41 an_41 : Option Addr} {sl_41 : Array (Option Value)}
    (a_41 : PySem.W.nsIn K mainGlobals "_law_page" = some (some (.ref f_41))) (l_41 : K.lookup f_41 = some ⟨oc_41, od_41, .func (PySem.W.fnOf "_law_page" "_law_page" (defArgs s__law_page) (defBody s__law_page) (defScope s__law_page) .none kV_41 dc_41 pm_41 an_41 cd_41 ct_41), sl_41⟩) (c_41 : PySem.W.codeIn K cd_41 "_law_page" = true) (k_41 : PySem.W.keepIn K (.ref f_41) = true)
    {f_42 : Addr} {oc_42 kV_42 dc_42 pm_42 cd_42 ct_42 : Value} {od_42 an_42 : Option Addr} {sl_42 : Array (Option Value)}
    (a_42 : PySem.W.nsIn K mainGlobals "_law_page_of" = some (some (.ref f_42))) (l_42 : K.lookup f_42 = some ⟨oc_42, od_42, .func (PySem.W.fnOf "_law_page_of" "_law_page_of" (defArgs s__law_page_of) (defBody s__law_page_of) (defScope s__law_page_of) .none kV_42 dc_42 pm_42 an_42 cd_42 ct_42), sl_42⟩) (c_42 : PySem.W.codeIn K cd_42 "_law_page_of" = true) (k_42 : PySem.W.keepIn K (.ref f_42) = true)
    {f_43 : Addr} {oc_43 kV_43 dc_43 pm_43 cd_43 ct_43 : Value} {od_43 an_43 : Option Addr} {sl_43 : Array (Option Value)}
    (a_43 : PySem.W.nsIn K mainGlobals "_law_touching" = some (some (.ref f_43))) (l_43 : K.lookup f_43 = some ⟨oc_43, od_43, .func (PySem.W.fnOf "_law_touching" "_law_touching" (defArgs s__law_touching) (defBody s__law_touching) (defScope s__law_touching) .none kV_43 dc_43 pm_43 an_43 cd_43 ct_43), sl_43⟩) (c_43 : PySem.W.codeIn K cd_43 "_law_touching" = true) (k_43 : PySem.W.keepIn K (.ref f_43) = true)
    {f_44 : Addr} {oc_44 kV_44 dc_44 pm_44 cd_44 ct_44 : Value} {od_44 an_44 : Option Addr} {sl_44 : Array (Option Value)}
    (a_44 : PySem.W.nsIn K mainGlobals "_law_is_told" = some (some (.ref f_44))) (l_44 : K.lookup f_44 = some ⟨oc_44, od_44, .func (PySem.W.fnOf "_law_is_told" "_law_is_told" (defArgs s__law_is_told) (defBody s__law_is_told) (defScope s__law_is_told) .none kV_44 dc_44 pm_44 an_44 cd_44 ct_44), sl_44⟩) (c_44 : PySem.W.codeIn K cd_44 "_law_is_told" = true) (k_44 : PySem.W.keepIn K (.ref f_44) = true)
    {f_45 : Addr} {oc_45 kV_45 dc_45 pm_45 cd_45 ct_45 : Value} {od_45 an_45 : Option Addr} {sl_45 : Array (Option Value)}
    (a_45 : PySem.W.nsIn K mainGlobals "law" = some (some (.ref f_45))) (l_45 : K.lookup f_45 = some ⟨oc_45, od_45, .func (PySem.W.fnOf "law" "law" (defArgs s_law) (defBody s_law) (defScope s_law) .none kV_45 dc_45 pm_45 an_45 cd_45 ct_45), sl_45⟩) (c_45 : PySem.W.codeIn K cd_45 "law" = true) (k_45 : PySem.W.keepIn K (.ref f_45) = true)
    (z_abs : PySem.W.nsIn K mainGlobals "abs" = some none)
    (z_bool : PySem.W.nsIn K mainGlobals "bool" = some none)
    (z_int : PySem.W.nsIn K mainGlobals "int" = some none)
    (z_isinstance : PySem.W.nsIn K mainGlobals "isinstance" = some none)
    (z_len : PySem.W.nsIn K mainGlobals "len" = some none)
    (z_range : PySem.W.nsIn K mainGlobals "range" = some none)
    (z_str : PySem.W.nsIn K mainGlobals "str" = some none)
    (z_tuple : PySem.W.nsIn K mainGlobals "tuple" = some none)
    (z_zip : PySem.W.nsIn K mainGlobals "zip" = some none)
    (q_gcd : PySem.W.nsIn K mainGlobals "gcd" = some (some (.builtin "math.gcd"))) :
    ∃ fd : FuncData, (∀ (s : Shared) (v : Value), BindsTo s fd ⟨[v], []⟩ [("script", v)]) ∧ ∀ base : Heap, K.In base → base.Ns mainGlobals mg → FnOk l.prog w K mg base CX0 10 fa fd ["script"] (spLaw K) := by
  have e := hfa.symm.trans (PySem.W.mg_of X G a_45)
  cases e
  exact ⟨_, fun s v => .of_eq rfl, fun base _ _ => ok_law (txt_mk X G a_0 l_0 c_0 k_0 a_1 l_1 c_1 k_1 a_2 l_2 c_2 k_2 a_3 l_3 c_3 k_3 a_4 l_4 c_4 k_4 a_5 l_5 c_5 k_5 a_6 l_6 c_6 k_6 a_7 l_7 c_7 k_7 a_8 l_8 c_8 k_8 a_9 l_9 c_9 k_9 a_10 l_10 c_10 k_10 a_11 l_11 c_11 k_11 a_12 l_12 c_12 k_12 a_13 l_13 c_13 k_13 a_14 l_14 c_14 k_14 a_15 l_15 c_15 k_15 a_16 l_16 c_16 k_16 a_17 l_17 c_17 k_17 a_18 l_18 c_18 k_18 a_19 l_19 c_19 k_19 a_20 l_20 c_20 k_20 a_21 l_21 c_21 k_21 a_22 l_22 c_22 k_22 a_23 l_23 c_23 k_23 a_24 l_24 c_24 k_24 a_25 l_25 c_25 k_25 a_26 l_26 c_26 k_26 a_27 l_27 c_27 k_27 a_28 l_28 c_28 k_28 a_29 l_29 c_29 k_29 a_30 l_30 c_30 k_30 a_31 l_31 c_31 k_31 a_32 l_32 c_32 k_32 a_33 l_33 c_33 k_33 a_34 l_34 c_34 k_34 a_35 l_35 c_35 k_35 a_36 l_36 c_36 k_36 a_37 l_37 c_37 k_37 a_38 l_38 c_38 k_38 a_39 l_39 c_39 k_39 a_40 l_40 c_40 k_40 a_41 l_41 c_41 k_41 a_42 l_42 c_42 k_42 a_43 l_43 c_43 k_43 a_44 l_44 c_44 k_44 a_45 l_45 c_45 k_45 z_abs z_bool z_int z_isinstance z_len z_range z_str z_tuple z_zip q_gcd)⟩
end Lawk11
set_option maxHeartbeats 0 in
theorem PySem.Challenge.cw_lastfigure_k11_pages_and_prints_that_can_holds : PySem.Challenge.rw_lastfigure_k11_pages_and_prints_that_can.Holds := by
  w_on; o_law; k_head; (case hw => w_witness2)
  k_fill
  refine L2.walk_of (l := PySem.Challenge.rw_lastfigure_k11_pages_and_prints_that_can) (n := 63) (k := 10) (x := "script") (CX := fun _ => L2.CX0) (sp := fun w => L2.P3.spLaw _) rfl (by decide) rfl ⟨rfl, by decide, by decide⟩ (fun w h Y => PySem.W.kIn_of Y) ?F (fun _ H a ns hl hO hS => L2.P3.spLaw_start hO hS hl) (fun _ _ _ _ _ h => h)
  case F =>
    intro w mg fa h KX G hmg
    refine' Lawk11.all_mk KX G hmg ?a_0 ?l_0 ?c_0 ?k_0 ?a_1 ?l_1 ?c_1 ?k_1 ?a_2 ?l_2 ?c_2 ?k_2 ?a_3 ?l_3 ?c_3 ?k_3 ?a_4 ?l_4 ?c_4 ?k_4 ?a_5 ?l_5 ?c_5 ?k_5 ?a_6 ?l_6 ?c_6 ?k_6 ?a_7 ?l_7 ?c_7 ?k_7 ?a_8 ?l_8 ?c_8 ?k_8 ?a_9 ?l_9 ?c_9 ?k_9 ?a_10 ?l_10 ?c_10 ?k_10 ?a_11 ?l_11 ?c_11 ?k_11 ?a_12 ?l_12 ?c_12 ?k_12 ?a_13 ?l_13 ?c_13 ?k_13 ?a_14 ?l_14 ?c_14 ?k_14 ?a_15 ?l_15 ?c_15 ?k_15 ?a_16 ?l_16 ?c_16 ?k_16 ?a_17 ?l_17 ?c_17 ?k_17 ?a_18 ?l_18 ?c_18 ?k_18 ?a_19 ?l_19 ?c_19 ?k_19 ?a_20 ?l_20 ?c_20 ?k_20 ?a_21 ?l_21 ?c_21 ?k_21 ?a_22 ?l_22 ?c_22 ?k_22 ?a_23 ?l_23 ?c_23 ?k_23 ?a_24 ?l_24 ?c_24 ?k_24 ?a_25 ?l_25 ?c_25 ?k_25 ?a_26 ?l_26 ?c_26 ?k_26 ?a_27 ?l_27 ?c_27 ?k_27 ?a_28 ?l_28 ?c_28 ?k_28 ?a_29 ?l_29 ?c_29 ?k_29 ?a_30 ?l_30 ?c_30 ?k_30 ?a_31 ?l_31 ?c_31 ?k_31 ?a_32 ?l_32 ?c_32 ?k_32 ?a_33 ?l_33 ?c_33 ?k_33 ?a_34 ?l_34 ?c_34 ?k_34 ?a_35 ?l_35 ?c_35 ?k_35 ?a_36 ?l_36 ?c_36 ?k_36 ?a_37 ?l_37 ?c_37 ?k_37 ?a_38 ?l_38 ?c_38 ?k_38 ?a_39 ?l_39 ?c_39 ?k_39 ?a_40 ?l_40 ?c_40 ?k_40 ?a_41 ?l_41 ?c_41 ?k_41 ?a_42 ?l_42 ?c_42 ?k_42 ?a_43 ?l_43 ?c_43 ?k_43 ?a_44 ?l_44 ?c_44 ?k_44 ?a_45 ?l_45 ?c_45 ?k_45 ?z_abs ?z_bool ?z_int ?z_isinstance ?z_len ?z_range ?z_str ?z_tuple ?z_zip ?q_gcd
    (case a_0 => k_is); (case l_0 => k_is); (case c_0 => k_is); (case k_0 => k_is); (case a_1 => k_is); (case l_1 => k_is); (case c_1 => k_is); (case k_1 => k_is); (case a_2 => k_is); (case l_2 => k_is); (case c_2 => k_is); (case k_2 => k_is); (case a_3 => k_is); (case l_3 => k_is); (case c_3 => k_is); (case k_3 => k_is); (case a_4 => k_is); (case l_4 => k_is); (case c_4 => k_is); (case k_4 => k_is); (case a_5 => k_is); (case l_5 => k_is); (case c_5 => k_is); (case k_5 => k_is); (case a_6 => k_is); (case l_6 => k_is); (case c_6 => k_is); (case k_6 => k_is); (case a_7 => k_is); (case l_7 => k_is); (case c_7 => k_is); (case k_7 => k_is); (case a_8 => k_is); (case l_8 => k_is); (case c_8 => k_is); (case k_8 => k_is); (case a_9 => k_is); (case l_9 => k_is); (case c_9 => k_is); (case k_9 => k_is); (case a_10 => k_is); (case l_10 => k_is); (case c_10 => k_is); (case k_10 => k_is); (case a_11 => k_is); (case l_11 => k_is); (case c_11 => k_is); (case k_11 => k_is); (case a_12 => k_is); (case l_12 => k_is); (case c_12 => k_is); (case k_12 => k_is); (case a_13 => k_is); (case l_13 => k_is); (case c_13 => k_is); (case k_13 => k_is); (case a_14 => k_is); (case l_14 => k_is); (case c_14 => k_is); (case k_14 => k_is); (case a_15 => k_is); (case l_15 => k_is); (case c_15 => k_is); (case k_15 => k_is); (case a_16 => k_is); (case l_16 => k_is); (case c_16 => k_is); (case k_16 => k_is); (case a_17 => k_is); (case l_17 => k_is); (case c_17 => k_is); (case k_17 => k_is); (case a_18 => k_is); (case l_18 => k_is); (case c_18 => k_is); (case k_18 => k_is); (case a_19 => k_is); (case l_19 => k_is); (case c_19 => k_is); (case k_19 => k_is); (case a_20 => k_is); (case l_20 => k_is); (case c_20 => k_is); (case k_20 => k_is); (case a_21 => k_is); (case l_21 => k_is); (case c_21 => k_is); (case k_21 => k_is); (case a_22 => k_is); (case l_22 => k_is); (case c_22 => k_is); (case k_22 => k_is); (case a_23 => k_is); (case l_23 => k_is); (case c_23 => k_is); (case k_23 => k_is); (case a_24 => k_is); (case l_24 => k_is); (case c_24 => k_is); (case k_24 => k_is); (case a_25 => k_is); (case l_25 => k_is); (case c_25 => k_is); (case k_25 => k_is); (case a_26 => k_is); (case l_26 => k_is); (case c_26 => k_is); (case k_26 => k_is); (case a_27 => k_is); (case l_27 => k_is); (case c_27 => k_is); (case k_27 => k_is); (case a_28 => k_is); (case l_28 => k_is); (case c_28 => k_is); (case k_28 => k_is); (case a_29 => k_is); (case l_29 => k_is); (case c_29 => k_is); (case k_29 => k_is); (case a_30 => k_is); (case l_30 => k_is); (case c_30 => k_is); (case k_30 => k_is); (case a_31 => k_is); (case l_31 => k_is); (case c_31 => k_is); (case k_31 => k_is); (case a_32 => k_is); (case l_32 => k_is); (case c_32 => k_is); (case k_32 => k_is); (case a_33 => k_is); (case l_33 => k_is); (case c_33 => k_is); (case k_33 => k_is); (case a_34 => k_is); (case l_34 => k_is); (case c_34 => k_is); (case k_34 => k_is); (case a_35 => k_is); (case l_35 => k_is); (case c_35 => k_is); (case k_35 => k_is); (case a_36 => k_is); (case l_36 => k_is); (case c_36 => k_is); (case k_36 => k_is); (case a_37 => k_is); (case l_37 => k_is); (case c_37 => k_is); (case k_37 => k_is); (case a_38 => k_is); (case l_38 => k_is); (case c_38 => k_is); (case k_38 => k_is); (case a_39 => k_is); (case l_39 => k_is); (case c_39 => k_is); (case k_39 => k_is); (case a_40 => k_is); (case l_40 => k_is); (case c_40 => k_is); (case k_40 => k_is); (case a_41 => k_is); (case l_41 => k_is); (case c_41 => k_is); (case k_41 => k_is); (case a_42 => k_is); (case l_42 => k_is); (case c_42 => k_is); (case k_42 => k_is); (case a_43 => k_is); (case l_43 => k_is); (case c_43 => k_is); (case k_43 => k_is); (case a_44 => k_is); (case l_44 => k_is); (case c_44 => k_is); (case k_44 => k_is); (case a_45 => k_is); (case l_45 => k_is); (case c_45 => k_is); (case k_45 => k_is); (case z_abs => k_is); (case z_bool => k_is); (case z_int => k_is); (case z_isinstance => k_is); (case z_len => k_is); (case z_range => k_is); (case z_str => k_is); (case z_tuple => k_is); (case z_zip => k_is); (case q_gcd => k_is)
