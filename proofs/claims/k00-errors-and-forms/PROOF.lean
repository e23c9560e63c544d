import PyProof.Rows.All
import Wide.All
import OpenK.AllK
import Wide.FinOn
import PyProof.EqAt
import PyProof.EqKinds
import PyProof.TupleCall
import HandS.ForMost
import HandS.ForExc
import HandS.TupAny
import HandS.TupMul
import HandS.IsInst
import HandS.TupLe
import HandS.Zip
import HandS.Nested
import HandS.ExcInit
import KE.KExcSuper
import HandS.ExcValue
import HandS.ExcField
import HandS.ExcIs
import KE.KExcMore
import KE.KTypeName
import KE.KExcIs
import KE.RegKIsAll
import KE.RegKSuper
import HandS.FStr
import PySem.Challenge.RW_casetrees_k00_errors_and_forms
set_option Elab.async false
set_option linter.all false
set_option maxRecDepth 100000
/-! Deep values, live cells, and how they lie in HandS's abstract heap. -/
namespace L2
namespace Py
open PySem PySem.Spec PyProof.Rows

/-- a deep value: data; lists and dicts in it are frozen -/
inductive D where
  | non | bl (b : Bool) | int (i : Int) | str (x : Str)
  | tup (xs : List D) | lst (xs : List D) | dct (ks ws : List D) | scr (xs : List D)
  | glo (x : Str) | ty (n : String)
/-- what a name holds: data, or a live cell's number -/
inductive SV where
  | d (x : D) | r (n : Nat)
/-- a live (mutable) thing -/
inductive Cell where
  | lst (xs : List D)
  | dct (ks ws : List D)
  | ins (C : Str) (ns : List Str) (ws : List D)
  | dead
abbrev Hs := List Cell
abbrev Env' := List (Option SV)

structure Gd where
  K : PySem.W.Frag
  mg : Str → Option Value

def keyD : Key → D
  | .inl i => .int i
  | .inr x => .str x

/-- a list that is only read: locked, or of the top -/
def ScrAt (K : PySem.W.Frag) (H : Hp) (a : Addr) (vs : List V) : Prop :=
  (∃ o, H a = some (.frz o (.lst vs))) ∨ (SqL K H a vs ∧ ∃ o, K.lookup a = some o ∧ ∀ H', SqL K H' a vs)
section
variable (G : Gd) (H : Hp) (L : Addr → Prop)
mutual
def Rep : D → V → Prop
  | .non, v => v = .non
  | .bl b, v => v = .bl b
  | .int i, v => v = .int i
  | .str x, v => v = .str x
  | .tup xs, v => ∃ a vs, v = .ref a ∧ SqT G.K H a vs ∧ RepL xs vs
  | .lst xs, v => ∃ a vs, v = .ref a ∧ ¬ L a ∧ H a = some (.lst vs) ∧ RepL xs vs
  | .dct ks ws, v => ∃ a, v = .ref a ∧ ¬ L a ∧ ((∃ kvs : List (Key × V), H a = some (.dK kvs) ∧ ks = kvs.map (fun p => keyD p.1) ∧ RepL ws (kvs.map (·.2))) ∨
      ∃ kvs : List (List Key × V), H a = some (.dT kvs) ∧ ks = kvs.map (fun p => D.tup (p.1.map keyD)) ∧ RepL ws (kvs.map (·.2)))
  | .scr xs, v => ∃ a vs, v = .ref a ∧ ScrAt G.K H a vs ∧ RepL xs vs
  | .glo x, v => ∃ a, v = .ref a ∧ G.mg x = some (.ref a)
  | .ty n, v => v = .ty n
def RepL : List D → List V → Prop
  | [], vs => vs = []
  | d :: ds, vs => ∃ v r, vs = v :: r ∧ Rep d v ∧ RepL ds r
end
/-- what stands at a live cell's address -/
def CRel : Cell → Addr → Prop
  | .lst xs, a => ∃ vs, H a = some (.lst vs) ∧ RepL G H L xs vs
  | .dct ks ws, a => (∃ kvs : List (Key × V), H a = some (.dK kvs) ∧ ks = kvs.map (fun p => keyD p.1) ∧ RepL G H L ws (kvs.map (·.2))) ∨
      ∃ kvs : List (List Key × V), H a = some (.dT kvs) ∧ ks = kvs.map (fun p => D.tup (p.1.map keyD)) ∧ RepL G H L ws (kvs.map (·.2))
  | .ins C ns ws, a => ∃ ca dx fs, G.mg C = some (.ref ca) ∧ H a = some (.ins ca dx fs) ∧ ns = fs.map (·.1) ∧ RepL G H L ws (fs.map (·.2))
  | .dead, _ => False
/-- an exception's class and dict -/
def XRep (c : Str) (ns : List Str) (ws : List D) (cls : Value) (d : Option Addr) : Prop :=
  ∃ ca, G.mg c = some (.ref ca) ∧ cls = .ref ca ∧ ((ns = [] ∧ ws = [] ∧ d = none) ∨ ∃ dd fs, d = some dd ∧ H dd = some (.xd fs) ∧ ns = fs.map (·.1) ∧ RepL G H L ws (fs.map (·.2)))
end

/-- the live cells' places; all live addresses (this def's cells, and those of others) -/
structure Lg where
  M : List (Option Addr)
  L : Addr → Prop
  liv : ∀ a, some a ∈ M → L a
  nd : ∀ (i j : Nat) (a : Addr), M[i]? = some (some a) → M[j]? = some (some a) → i = j

def RepS (G : Gd) (H : Hp) (N : Lg) : SV → V → Prop
  | .d x, v => Rep G H N.L x v
  | .r n, v => ∃ a, v = .ref a ∧ N.M[n]? = some (some a)
def RepSL (G : Gd) (H : Hp) (N : Lg) : List SV → List V → Prop
  | [], vs => vs = []
  | d :: ds, vs => ∃ v r, vs = v :: r ∧ RepS G H N d v ∧ RepSL G H N ds r
/-- an environment -/
def ERel (G : Gd) (H : Hp) (N : Lg) (ρ : Env') (σ : St) : Prop := ρ.length = σ.length ∧ ∀ (i : Nat) (d : SV), ρ[i]? = some (some d) → ∃ v, σ[i]? = some (some v) ∧ RepS G H N d v

/-- the live cells stand -/
structure HRel (G : Gd) (hs : Hs) (N : Lg) (H : Hp) : Prop where
  len : N.M.length = hs.length
  at_ : ∀ (i : Nat) (c : Cell) (a : Addr), hs[i]? = some c → N.M[i]? = some (some a) → CRel G H N.L c a
  mu : ∀ a, N.L a → Mut (H a)

/-- what came: the frozen stays, the others' live ones stay, this def's live ones (those in P) keep their places, new live ones are new -/
structure Ext (P : Nat → Prop) (H : Hp) (N : Lg) (H' : Hp) (N' : Lg) : Prop where
  keep : ∀ a o, H a = some o → (¬ N.L a ∨ ¬ Mut (some o)) → H' a = some o
  new : ∀ a, N'.L a → N.L a ∨ H a = none
  pre : ∀ (i : Nat) (a : Addr), P i → N.M[i]? = some (some a) → N'.M[i]? = some (some a)
  sub : ∀ a, N.L a → H a ≠ none → (∀ i : Nat, N.M[i]? = some (some a) → P i) → N'.L a
  old : ∀ (i : Nat) (a : Addr), N.L a → H a ≠ none → N'.M[i]? = some (some a) → N.M[i]? = some (some a)
  there : ∀ a, H a ≠ none → H' a ≠ none
  hid : ∀ a, N.L a → some a ∉ N.M → H a ≠ none → H' a = H a
abbrev All : Nat → Prop := fun _ => True
abbrev ExtE := Ext All

section
variable {G : Gd} {H H' H1 H2 : Hp} {N N' N1 N2 : Lg} {hs hs' : Hs} {P : Nat → Prop} {L : Addr → Prop}

theorem Ext.refl : Ext P H N H N := ⟨fun _ _ h _ => h, fun _ h => .inl h, fun _ _ _ h => h, fun _ h _ _ => h, fun _ _ _ _ h => h, fun _ h => h, fun _ _ _ _ => rfl⟩
theorem Ext.weak {P' : Nat → Prop} (e : Ext P H N H' N') (h : ∀ i, P' i → P i) : Ext P' H N H' N' :=
  ⟨e.keep, e.new, fun i a p => e.pre i a (h i p), fun a l n q => e.sub a l n fun i z => h i (q i z), e.old, e.there, e.hid⟩
theorem Ext.toP (e : ExtE H N H' N') : Ext P H N H' N' := e.weak fun _ _ => trivial
theorem Ext.trans (a : Ext P H N H1 N1) (b : Ext P H1 N1 H2 N2) : Ext P H N H2 N2 := by
  refine ⟨fun x o h q => ?_, fun x h => ?_, fun i x p h => b.pre i x p (a.pre i x p h), fun x l n q => ?_, fun i x l n q => ?_, fun x h => b.there x (a.there x h), fun x l q n => ?_⟩
  · refine b.keep x o (a.keep x o h q) ?_
    rcases q with q | q
    · left
      intro hm
      rcases a.new x hm with z | z
      · exact q z
      · rw [z] at h; cases h
    · exact .inr q
  · by_cases hM : N.L x
    · exact .inl hM
    · right
      cases e : H x with
      | none => rfl
      | some o =>
        rcases b.new x h with z | z
        · rcases a.new x z with z | z
          · exact absurd z hM
          · rw [z] at e; cases e
        · rw [a.keep x o e (.inl hM)] at z; cases z
  · exact b.sub x (a.sub x l n q) (a.there x n) fun i z => q i (a.old i x l n z)
  · by_cases l1 : N1.L x
    · exact a.old i x l n (b.old i x l1 (a.there x n) q)
    · rcases b.new x (N2.liv x (List.mem_of_getElem? q)) with z | z
      · exact absurd z l1
      · exact absurd z (a.there x n)
  · have l1 : N1.L x := a.sub x l n fun j hj => absurd (List.mem_of_getElem? hj) q
    have n1 : some x ∉ N1.M := fun z => by
      obtain ⟨j, hj⟩ := List.getElem?_of_mem z
      exact q (List.mem_of_getElem? (a.old j x l n hj))
    exact (b.hid x l1 n1 (a.there x n)).trans (a.hid x l q n)

theorem Ext.sqT {K : PySem.W.Frag} {a : Addr} {vs : List V} (e : Ext P H N H' N') (h : SqT K H a vs) : SqT K H' a vs := by
  rcases h with h | h
  · rcases h with h | ⟨o, h⟩
    · exact .inl (.inl (e.keep a _ h (.inr (fun z => z))))
    · exact .inl (.inr ⟨o, e.keep a _ h (.inr (fun z => z))⟩)
  · exact .inr h
theorem Ext.notin {a : Addr} {o : HO} (e : Ext P H N H' N') (h : H a = some o) (ha : ¬ N.L a) : ¬ N'.L a := fun z => by
  rcases e.new a z with q | q
  · exact ha q
  · rw [q] at h; cases h
theorem Ext.scr {K : PySem.W.Frag} {a : Addr} {vs : List V} (e : Ext P H N H' N') (h : ScrAt K H a vs) : ScrAt K H' a vs := by
  rcases h with ⟨o, h⟩ | ⟨_, o, h1, h2⟩
  · exact .inl ⟨o, e.keep _ _ h (.inr (fun z => z))⟩
  · exact .inr ⟨h2 H', o, h1, h2⟩
theorem ScrAt.sq {K : PySem.W.Frag} {a : Addr} {vs : List V} (h : ScrAt K H a vs) : SqL K H a vs := by
  rcases h with ⟨o, h⟩ | ⟨h, _⟩
  · exact .inl (.inr ⟨o, h⟩)
  · exact h
mutual
theorem Rep.ext (e : Ext P H N H' N') : ∀ (d : D) (v : V), Rep G H N.L d v → Rep G H' N'.L d v
  | .non, _, h => h
  | .bl _, _, h => h
  | .int _, _, h => h
  | .str _, _, h => h
  | .tup xs, _, ⟨a, vs, h1, h2, h3⟩ => ⟨a, vs, h1, e.sqT h2, RepL.ext e xs vs h3⟩
  | .lst xs, _, ⟨a, vs, h1, h2, h3, h4⟩ => ⟨a, vs, h1, e.notin h3 h2, e.keep _ _ h3 (.inl h2), RepL.ext e xs vs h4⟩
  | .dct ks ws, _, ⟨a, h1, h2, h3⟩ => by
    refine ⟨a, h1, ?_, ?_⟩
    · rcases h3 with ⟨_, h3, _⟩ | ⟨_, h3, _⟩
      · exact e.notin h3 h2
      · exact e.notin h3 h2
    · rcases h3 with ⟨kvs, h3, h4, h5⟩ | ⟨kvs, h3, h4, h5⟩
      · exact .inl ⟨kvs, e.keep _ _ h3 (.inl h2), h4, RepL.ext e ws _ h5⟩
      · exact .inr ⟨kvs, e.keep _ _ h3 (.inl h2), h4, RepL.ext e ws _ h5⟩
  | .scr xs, _, ⟨a, vs, h1, h2, h3⟩ => ⟨a, vs, h1, e.scr h2, RepL.ext e xs vs h3⟩
  | .glo _, _, h => h
  | .ty _, _, h => h
theorem RepL.ext (e : Ext P H N H' N') : ∀ (ds : List D) (vs : List V), RepL G H N.L ds vs → RepL G H' N'.L ds vs
  | [], _, h => h
  | d :: ds, _, ⟨v, r, h1, h2, h3⟩ => ⟨v, r, h1, Rep.ext e d v h2, RepL.ext e ds r h3⟩
end
mutual
/-- fewer are live -/
theorem Rep.sub {L L' : Addr → Prop} (e : ∀ a, L' a → L a) : ∀ (d : D) (v : V), Rep G H L d v → Rep G H L' d v
  | .non, _, h => h
  | .bl _, _, h => h
  | .int _, _, h => h
  | .str _, _, h => h
  | .tup xs, _, ⟨a, vs, h1, h2, h3⟩ => ⟨a, vs, h1, h2, RepL.sub e xs vs h3⟩
  | .lst xs, _, ⟨a, vs, h1, h2, h3, h4⟩ => ⟨a, vs, h1, fun z => h2 (e a z), h3, RepL.sub e xs vs h4⟩
  | .dct ks ws, _, ⟨a, h1, h2, h3⟩ => by
    refine ⟨a, h1, fun z => h2 (e a z), ?_⟩
    rcases h3 with ⟨kvs, h3, h4, h5⟩ | ⟨kvs, h3, h4, h5⟩
    · exact .inl ⟨kvs, h3, h4, RepL.sub e ws _ h5⟩
    · exact .inr ⟨kvs, h3, h4, RepL.sub e ws _ h5⟩
  | .scr xs, _, ⟨a, vs, h1, h2, h3⟩ => ⟨a, vs, h1, h2, RepL.sub e xs vs h3⟩
  | .glo _, _, h => h
  | .ty _, _, h => h
theorem RepL.sub {L L' : Addr → Prop} (e : ∀ a, L' a → L a) : ∀ (ds : List D) (vs : List V), RepL G H L ds vs → RepL G H L' ds vs
  | [], _, h => h
  | d :: ds, _, ⟨v, r, h1, h2, h3⟩ => ⟨v, r, h1, Rep.sub e d v h2, RepL.sub e ds r h3⟩
end
theorem CRel.ext (e : Ext P H N H' N') {c : Cell} {a : Addr} (he : H' a = H a) (h : CRel G H N.L c a) : CRel G H' N'.L c a := by
  cases c with
  | lst xs =>
    obtain ⟨vs, h1, h2⟩ := h
    exact ⟨vs, he.trans h1, RepL.ext e _ _ h2⟩
  | dct ks ws =>
    rcases h with ⟨kvs, h3, h4, h5⟩ | ⟨kvs, h3, h4, h5⟩
    · exact .inl ⟨kvs, he.trans h3, h4, RepL.ext e ws _ h5⟩
    · exact .inr ⟨kvs, he.trans h3, h4, RepL.ext e ws _ h5⟩
  | ins C ns ws =>
    obtain ⟨ca, dx, fs, h1, h2, h3, h4⟩ := h
    exact ⟨ca, dx, fs, h1, he.trans h2, h3, RepL.ext e _ _ h4⟩
  | dead => exact h
theorem CRel.sub {L L' : Addr → Prop} (e : ∀ a, L' a → L a) {c : Cell} {a : Addr} (h : CRel G H L c a) : CRel G H L' c a := by
  cases c with
  | lst xs =>
    obtain ⟨vs, h1, h2⟩ := h
    exact ⟨vs, h1, RepL.sub e _ _ h2⟩
  | dct ks ws =>
    rcases h with ⟨kvs, h3, h4, h5⟩ | ⟨kvs, h3, h4, h5⟩
    · exact .inl ⟨kvs, h3, h4, RepL.sub e ws _ h5⟩
    · exact .inr ⟨kvs, h3, h4, RepL.sub e ws _ h5⟩
  | ins C ns ws =>
    obtain ⟨ca, dx, fs, h1, h2, h3, h4⟩ := h
    exact ⟨ca, dx, fs, h1, h2, h3, RepL.sub e _ _ h4⟩
  | dead => exact h
theorem CRel.mu {c : Cell} {a : Addr} (h : CRel G H L c a) : Mut (H a) := by
  cases c with
  | lst xs => obtain ⟨vs, h1, _⟩ := h; rw [h1]; trivial
  | dct ks ws => rcases h with ⟨kvs, h1, _⟩ | ⟨kvs, h1, _⟩ <;> (rw [h1]; trivial)
  | ins C ns ws => obtain ⟨ca, dx, fs, _, h1, _⟩ := h; rw [h1]; trivial
  | dead => exact h.elim
theorem RepS.ext (e : ExtE H N H' N') {d : SV} {v : V} (h : RepS G H N d v) : RepS G H' N' d v := by
  cases d with
  | d x => exact Rep.ext e x v h
  | r n => obtain ⟨a, h1, h2⟩ := h; exact ⟨a, h1, e.pre n a trivial h2⟩
theorem RepSL.ext (e : ExtE H N H' N') : ∀ {ds : List SV} {vs : List V}, RepSL G H N ds vs → RepSL G H' N' ds vs
  | [], _, h => h
  | d :: ds, _, ⟨v, r, h1, h2, h3⟩ => ⟨v, r, h1, h2.ext e, RepSL.ext e h3⟩
theorem ERel.ext {ρ : Env'} {σ : St} (e : ExtE H N H' N') (h : ERel G H N ρ σ) : ERel G H' N' ρ σ :=
  ⟨h.1, fun i d q => let ⟨v, a, b⟩ := h.2 i d q; ⟨v, a, b.ext e⟩⟩
theorem ERel.set {ρ : Env'} {σ : St} {i : Nat} {d : SV} {v : V} (h : ERel G H N ρ σ) (r : RepS G H N d v) : ERel G H N (ρ.set i (some d)) (σ.set i (some v)) := by
  refine ⟨by simp [h.1], fun j e q => ?_⟩
  by_cases hj : i = j
  · subst hj
    by_cases hi : i < ρ.length
    · rw [List.getElem?_set_self hi] at q
      cases q
      exact ⟨v, by rw [List.getElem?_set_self (by rw [← h.1]; exact hi)], r⟩
    · rw [List.getElem?_eq_none (by simp; omega)] at q; cases q
  · rw [List.getElem?_set_ne hj] at q ⊢
    exact h.2 j e q
theorem HRel.get {i : Nat} {a : Addr} (h : HRel G hs N H) (hi : N.M[i]? = some (some a)) : ∃ c, hs[i]? = some c ∧ CRel G H N.L c a ∧ N.L a := by
  have hl : i < N.M.length := (List.getElem?_eq_some_iff.mp hi).1
  rw [h.len] at hl
  exact ⟨hs[i], by simp [hl], h.at_ i _ a (by simp [hl]) hi, N.liv a (List.mem_of_getElem? hi)⟩
theorem HRel.there {a : Addr} (h : HRel G hs N H) (ha : N.L a) : H a ≠ none := fun z => by
  have := h.mu a ha
  rw [z] at this; exact this
theorem HRel.fresh {p : Addr} (h : HRel G hs N H) (hp : H p = none) : ¬ N.L p := fun z => h.there z hp
theorem Ext.alloc {p : Addr} {o : HO} (hp : H p = none) : Ext P H N (upd H p o) N :=
  ⟨fun a u h _ => by rw [upd_ne (ne_of_none h hp)]; exact h, fun _ h => .inl h, fun _ _ _ h => h, fun _ h _ _ => h, fun _ _ _ _ h => h, fun a h => by
    have : a ≠ p := by rintro rfl; exact h hp
    rw [upd_ne this]; exact h, fun a _ _ h => by
    have : a ≠ p := by rintro rfl; exact h hp
    rw [upd_ne this]⟩
theorem HRel.alloc {p : Addr} {o : HO} (h : HRel G hs N H) (hp : H p = none) : HRel G hs N (upd H p o) := by
  refine ⟨h.len, fun i c a h1 h2 => ?_, fun a ha => ?_⟩
  · have hne : a ≠ p := by
      rintro rfl
      exact h.there (N.liv _ (List.mem_of_getElem? h2)) hp
    exact (h.at_ i c a h1 h2).ext (Ext.alloc (P := All) hp) (upd_ne hne)
  · have hne : a ≠ p := by
      rintro rfl
      exact h.there ha hp
    rw [upd_ne hne]; exact h.mu a ha
/-- one more live cell, at p -/
def Lg.push (N : Lg) (p : Addr) (hp : ¬ N.L p) : Lg where
  M := N.M ++ [some p]
  L := fun a => N.L a ∨ a = p
  liv := fun a h => by
    rcases List.mem_append.mp h with z | z
    · exact .inl (N.liv a z)
    · right
      have : some a = some p := by simpa using z
      exact Option.some.inj this
  nd := fun i j a h1 h2 => by
    have key : ∀ k : Nat, (N.M ++ [some p])[k]? = some (some a) → (k < N.M.length ∧ N.M[k]? = some (some a)) ∨ (k = N.M.length ∧ a = p) := fun k hk => by
      by_cases hl : k < N.M.length
      · rw [List.getElem?_append_left hl] at hk; exact .inl ⟨hl, hk⟩
      · have hk' : k < (N.M ++ [some p]).length := (List.getElem?_eq_some_iff.mp hk).1
        have e : k = N.M.length := by simp at hk'; omega
        subst e
        rw [List.getElem?_append_right (Nat.le_refl _)] at hk
        simp at hk
        exact .inr ⟨rfl, hk.symm⟩
    rcases key i h1 with ⟨l1, q1⟩ | ⟨l1, q1⟩ <;> rcases key j h2 with ⟨l2, q2⟩ | ⟨l2, q2⟩
    · exact N.nd i j a q1 q2
    · subst q2; exact absurd (N.liv _ (List.mem_of_getElem? q1)) hp
    · subst q1; exact absurd (N.liv _ (List.mem_of_getElem? q2)) hp
    · rw [l1, l2]
theorem Ext.push {p : Addr} {o : HO} (hp : H p = none) (hl : ¬ N.L p) : Ext P H N (upd H p o) (N.push p hl) := by
  refine ⟨fun a u h _ => by rw [upd_ne (ne_of_none h hp)]; exact h, fun a h => ?_, fun i a _ h => ?_, fun a h _ _ => .inl h, fun i a h1 h2 h3 => ?_, fun a h => ?_, fun a _ _ h => ?_⟩
  · rcases h with z | z
    · exact .inl z
    · right; rw [z]; exact hp
  · have hi : i < N.M.length := (List.getElem?_eq_some_iff.mp h).1
    show (N.M ++ [some p])[i]? = _
    rw [List.getElem?_append_left hi]; exact h
  · have hk : (N.M ++ [some p])[i]? = some (some a) := h3
    by_cases hi : i < N.M.length
    · rw [List.getElem?_append_left hi] at hk; exact hk
    · have hk' : i < (N.M ++ [some p]).length := (List.getElem?_eq_some_iff.mp hk).1
      have e : i = N.M.length := by simp at hk'; omega
      subst e
      rw [List.getElem?_append_right (Nat.le_refl _)] at hk
      simp at hk
      subst hk
      exact absurd h1 hl
  · have : a ≠ p := by rintro rfl; exact h hp
    rw [upd_ne this]; exact h
  · have : a ≠ p := by rintro rfl; exact h hp
    rw [upd_ne this]
theorem HRel.push {p : Addr} {o : HO} {c : Cell} (h : HRel G hs N H) (hp : H p = none) (hm : Mut (some o)) (hc : CRel G (upd H p o) (N.push p (h.fresh hp)).L c p) : HRel G (hs ++ [c]) (N.push p (h.fresh hp)) (upd H p o) := by
  refine ⟨by simp [Lg.push, h.len], fun i c' a h1 h2 => ?_, fun a ha => ?_⟩
  · have h2' : (N.M ++ [some p])[i]? = some (some a) := h2
    by_cases hi : i < hs.length
    · rw [List.getElem?_append_left hi] at h1
      rw [List.getElem?_append_left (by rw [h.len]; exact hi)] at h2'
      have hne : a ≠ p := by
        rintro rfl
        exact h.fresh hp (N.liv _ (List.mem_of_getElem? h2'))
      exact (h.at_ i c' a h1 h2').ext (Ext.push (P := All) hp (h.fresh hp)) (upd_ne hne)
    · have hl : i < (hs ++ [c]).length := (List.getElem?_eq_some_iff.mp h1).1
      have hi' : i = hs.length := by simp at hl; omega
      subst hi'
      rw [List.getElem?_append_right (Nat.le_refl _)] at h1
      rw [← h.len, List.getElem?_append_right (Nat.le_refl _)] at h2'
      simp at h1 h2'
      subst h1 h2'
      exact hc
  · rcases ha with ha | ha
    · have hne : a ≠ p := by
        rintro rfl
        exact h.there ha hp
      rw [upd_ne hne]; exact h.mu a ha
    · rw [ha, upd_same]; exact hm
theorem Ext.write {a : Addr} {o : HO} (hi : some a ∈ N.M) (hm : Mut (H a)) : Ext P H N (upd H a o) N := by
  have ha := N.liv a hi
  refine ⟨fun b u h q => ?_, fun _ h => .inl h, fun _ _ _ h => h, fun _ h _ _ => h, fun _ _ _ _ h => h, fun b h => ?_, fun b _ q _ => ?_⟩
  · have : b ≠ a := by
      rintro rfl
      rcases q with q | q
      · exact q ha
      · rw [h] at hm; exact q hm
    rw [upd_ne this]; exact h
  · by_cases e : b = a
    · subst e; rw [upd_same]; exact fun z => nomatch z
    · rw [upd_ne e]; exact h
  · have : b ≠ a := by rintro rfl; exact q hi
    rw [upd_ne this]
theorem HRel.write {i : Nat} {a : Addr} {o : HO} {c : Cell} (h : HRel G hs N H) (hi : N.M[i]? = some (some a)) (hm : Mut (some o)) (hc : CRel G (upd H a o) N.L c a) :
    HRel G (hs.set i c) N (upd H a o) ∧ ExtE H N (upd H a o) N := by
  have ha := List.mem_of_getElem? hi
  have ex : ExtE H N (upd H a o) N := Ext.write ha (h.mu a (N.liv a ha))
  refine ⟨⟨by simp [h.len], fun j c' b h1 h2 => ?_, fun b hb => ?_⟩, ex⟩
  · by_cases hj : i = j
    · subst hj
      rw [hi] at h2; cases h2
      have hl : i < (hs.set i c).length := (List.getElem?_eq_some_iff.mp h1).1
      rw [List.length_set] at hl
      rw [List.getElem?_set_self hl] at h1; cases h1
      exact hc
    · rw [List.getElem?_set_ne hj] at h1
      have hne : b ≠ a := by
        rintro rfl
        exact hj (N.nd i j b hi h2)
      exact (h.at_ j c' b h1 h2).ext ex (upd_ne hne)
  · by_cases e : b = a
    · subst e; rw [upd_same]; exact hm
    · rw [upd_ne e]; exact h.mu b hb
/-- the cells from k on are let go (frozen) -/
def Lg.take (N : Lg) (k : Nat) : Lg where
  M := N.M.take k
  L := fun a => N.L a ∧ ∀ j : Nat, N.M[j]? = some (some a) → j < k
  liv := fun a h => by
    obtain ⟨i, hi⟩ := List.getElem?_of_mem h
    have hk : i < (N.M.take k).length := (List.getElem?_eq_some_iff.mp hi).1
    rw [List.length_take] at hk
    rw [List.getElem?_take_of_lt (by omega)] at hi
    exact ⟨N.liv a (List.mem_of_getElem? hi), fun j hj => by rw [N.nd j i a hj hi]; omega⟩
  nd := fun i j a h1 h2 => by
    have k1 : i < (N.M.take k).length := (List.getElem?_eq_some_iff.mp h1).1
    have k2 : j < (N.M.take k).length := (List.getElem?_eq_some_iff.mp h2).1
    rw [List.length_take] at k1 k2
    rw [List.getElem?_take_of_lt (by omega)] at h1 h2
    exact N.nd i j a h1 h2
theorem HRel.take (h : HRel G hs N H) (k : Nat) : HRel G (hs.take k) (N.take k) H := by
  refine ⟨by simp [Lg.take, h.len], fun i c a h1 h2 => ?_, fun a ha => h.mu a ha.1⟩
  have h2' : (N.M.take k)[i]? = some (some a) := h2
  have k1 : i < (N.M.take k).length := (List.getElem?_eq_some_iff.mp h2').1
  rw [List.length_take] at k1
  rw [List.getElem?_take_of_lt (by omega)] at h1 h2'
  exact (h.at_ i c a h1 h2').sub fun b q => q.1
theorem Ext.take {k : Nat} (e : Ext (· < k) H N H' N') (hk : N.M.length = k) : ExtE H N H' (N'.take k) := by
  refine ⟨e.keep, fun a h => e.new a h.1, fun i a _ h => ?_, fun a h n _ => ⟨?_, fun j hj => ?_⟩, fun i a h n q => ?_, e.there, e.hid⟩
  · have hi : i < N.M.length := (List.getElem?_eq_some_iff.mp h).1
    show (N'.M.take k)[i]? = _
    rw [List.getElem?_take_of_lt (by omega)]
    exact e.pre i a (by omega) h
  · exact e.sub a h n fun i hi => by
      have := (List.getElem?_eq_some_iff.mp hi).1
      omega
  · have := (List.getElem?_eq_some_iff.mp (e.old j a h n hj)).1
    omega
  · have q' : (N'.M.take k)[i]? = some (some a) := q
    have k1 : i < (N'.M.take k).length := (List.getElem?_eq_some_iff.mp q').1
    rw [List.length_take] at k1
    rw [List.getElem?_take_of_lt (by omega)] at q'
    exact e.old i a h n q'
/-- some of the live cells, for a callee -/
def Lg.sel (N : Lg) (is : List Nat) (hn : is.Nodup) : Lg where
  M := is.map fun i => (N.M[i]?).join
  L := N.L
  liv := fun a h => by
    obtain ⟨i, _, e⟩ := List.mem_map.mp h
    cases q : N.M[i]? with
    | none => rw [q] at e; cases e
    | some o => rw [q] at e; cases e; exact N.liv a (List.mem_of_getElem? q)
  nd := fun i j a h1 h2 => by
    rw [List.getElem?_map] at h1 h2
    cases q1 : is[i]? with
    | none => rw [q1] at h1; cases h1
    | some x =>
      cases q2 : is[j]? with
      | none => rw [q2] at h2; cases h2
      | some y =>
        rw [q1] at h1; rw [q2] at h2
        have key : ∀ z : Nat, some ((N.M[z]?).join) = some (some a) → N.M[z]? = some (some a) := fun z hz => by
          cases q : N.M[z]? with
          | none => rw [q] at hz; cases hz
          | some o =>
            rw [q] at hz
            have hz' : o = some a := Option.some.inj hz
            rw [hz']
        have e := N.nd x y a (key x h1) (key y h2)
        subst e
        obtain ⟨l1, e1⟩ := List.getElem?_eq_some_iff.mp q1
        obtain ⟨l2, e2⟩ := List.getElem?_eq_some_iff.mp q2
        exact (List.getElem_inj hn).mp (e1.trans e2.symm)
theorem RepL.length : ∀ {ds : List D} {vs : List V}, RepL G H L ds vs → ds.length = vs.length
  | [], _, h => by rw [show _ = ([] : List V) from h]; rfl
  | d :: ds, _, ⟨v, r, h1, _, h3⟩ => by rw [h1, List.length_cons, List.length_cons, RepL.length h3]
theorem RepL.get : ∀ {ds : List D} {vs : List V} {i : Nat} {d : D}, RepL G H L ds vs → ds[i]? = some d → ∃ v, vs[i]? = some v ∧ Rep G H L d v
  | [], _, _, _, _, e => by simp at e
  | d :: ds, _, 0, _, ⟨v, r, h1, h2, h3⟩, e => by
    simp at e; subst e; exact ⟨v, by rw [h1]; rfl, h2⟩
  | d :: ds, _, i + 1, d', ⟨v, r, h1, h2, h3⟩, e => by
    obtain ⟨w, q1, q2⟩ := RepL.get (i := i) (d := d') h3 (by simpa using e)
    exact ⟨w, by rw [h1]; simpa using q1, q2⟩
theorem RepL.append : ∀ {ds es : List D} {vs ws : List V}, RepL G H L ds vs → RepL G H L es ws → RepL G H L (ds ++ es) (vs ++ ws)
  | [], _, _, _, h, q => by rw [show _ = ([] : List V) from h]; exact q
  | d :: ds, es, _, ws, ⟨v, r, h1, h2, h3⟩, q => ⟨v, r ++ ws, by rw [h1]; rfl, h2, RepL.append h3 q⟩
theorem RepL.one {d : D} {v : V} (h : Rep G H L d v) : RepL G H L [d] [v] := ⟨v, [], rfl, h, rfl⟩
theorem RepL.take : ∀ {ds : List D} {vs : List V} (n : Nat), RepL G H L ds vs → RepL G H L (ds.take n) (vs.take n)
  | _, _, 0, _ => by simp [RepL]
  | [], _, n + 1, h => by rw [show _ = ([] : List V) from h]; simp [RepL]
  | d :: ds, _, n + 1, ⟨v, r, h1, h2, h3⟩ => ⟨v, r.take n, by rw [h1]; rfl, h2, RepL.take n h3⟩
theorem RepL.drop : ∀ {ds : List D} {vs : List V} (n : Nat), RepL G H L ds vs → RepL G H L (ds.drop n) (vs.drop n)
  | _, _, 0, h => h
  | [], _, n + 1, h => by rw [show _ = ([] : List V) from h]; simp [RepL]
  | d :: ds, _, n + 1, ⟨v, r, h1, h2, h3⟩ => by rw [h1]; exact RepL.drop n h3
theorem RepL.set {d : D} {v : V} (q : Rep G H L d v) : ∀ {ds : List D} {vs : List V} (n : Nat), RepL G H L ds vs → RepL G H L (ds.set n d) (vs.set n v)
  | [], _, n, h => by rw [show _ = ([] : List V) from h]; simp [RepL]
  | e :: ds, _, 0, ⟨v', r, h1, h2, h3⟩ => ⟨v, r, by rw [h1]; rfl, q, h3⟩
  | e :: ds, _, n + 1, ⟨v', r, h1, h2, h3⟩ => ⟨v', r.set n v, by rw [h1]; rfl, h2, RepL.set q n h3⟩
theorem RepL.dropLast {ds : List D} {vs : List V} (h : RepL G H L ds vs) : RepL G H L ds.dropLast vs.dropLast := by
  rw [List.dropLast_eq_take, List.dropLast_eq_take, ← h.length]
  exact h.take _
theorem RepL.eraseIdx : ∀ {ds : List D} {vs : List V} (n : Nat), RepL G H L ds vs → RepL G H L (ds.eraseIdx n) (vs.eraseIdx n)
  | [], _, n, h => by rw [show _ = ([] : List V) from h]; simp [RepL]
  | e :: ds, _, 0, ⟨v', r, h1, h2, h3⟩ => by rw [h1]; exact h3
  | e :: ds, _, n + 1, ⟨v', r, h1, h2, h3⟩ => ⟨v', r.eraseIdx n, by rw [h1]; rfl, h2, RepL.eraseIdx n h3⟩
theorem RepL.reverse : ∀ {ds : List D} {vs : List V}, RepL G H L ds vs → RepL G H L ds.reverse vs.reverse
  | [], _, h => by rw [show _ = ([] : List V) from h]; simp [RepL]
  | d :: ds, _, ⟨v, r, h1, h2, h3⟩ => by
    rw [h1, List.reverse_cons, List.reverse_cons]
    exact RepL.append (RepL.reverse h3) (RepL.one h2)
theorem RepSL.length : ∀ {ds : List SV} {vs : List V}, RepSL G H N ds vs → ds.length = vs.length
  | [], _, h => by rw [show _ = ([] : List V) from h]; rfl
  | d :: ds, _, ⟨v, r, h1, _, h3⟩ => by rw [h1, List.length_cons, List.length_cons, RepSL.length h3]
theorem RepSL.get : ∀ {ds : List SV} {vs : List V} {i : Nat} {d : SV}, RepSL G H N ds vs → ds[i]? = some d → ∃ v, vs[i]? = some v ∧ RepS G H N d v
  | [], _, _, _, _, e => by simp at e
  | d :: ds, _, 0, _, ⟨v, r, h1, h2, h3⟩, e => by
    simp at e; subst e; exact ⟨v, by rw [h1]; rfl, h2⟩
  | d :: ds, _, i + 1, d', ⟨v, r, h1, h2, h3⟩, e => by
    obtain ⟨w, q1, q2⟩ := RepSL.get (i := i) (d := d') h3 (by simpa using e)
    exact ⟨w, by rw [h1]; simpa using q1, q2⟩
end
end Py
end L2

set_option Elab.async false
set_option linter.all false
set_option maxRecDepth 100000
/-! Mirrors: what an expression, a statement, a def computes, over deep values; the judgements that link them with the text. -/
namespace L2
namespace Py
open PySem PySem.Spec PyProof.Rows

inductive Out (α : Type) where
  | ok (a : α) (hs : Hs)
  | exc (c : Str) (ns : List Str) (ws : List D) (hs : Hs)
  | bad
def Out.bind {α β : Type} (o : Out α) (f : α → Hs → Out β) : Out β :=
  match o with
  | .ok a h => f a h
  | .exc c ns ws h => .exc c ns ws h
  | .bad => .bad
inductive OutS where
  | nx (ρ : Env') (hs : Hs)
  | rt (d : SV) (hs : Hs)
  | bk (ρ : Env') (hs : Hs)
  | ct (ρ : Env') (hs : Hs)
  | exc (c : Str) (ns : List Str) (ws : List D) (ρ : Env') (hs : Hs)
  | bad
abbrev Mx (α : Type) := Env' → Hs → Out α
abbrev ME := Mx SV
abbrev MT := Mx Bool
abbrev MA := Mx (List SV)
abbrev MS := Env' → Hs → OutS
def OutS.bind (o : OutS) (f : MS) : OutS :=
  match o with
  | .nx ρ h => f ρ h
  | o => o
def Out.bindS {α : Type} (o : Out α) (ρ : Env') (f : α → Hs → OutS) : OutS :=
  match o with
  | .ok a h => f a h
  | .exc c ns ws h => .exc c ns ws ρ h
  | .bad => .bad

def RB : Gd → Hp → Lg → Bool → Bool → Prop := fun _ _ _ a b => a = b

section
variable (G : Gd)
/-- what an outcome asks of what follows -/
def PostO {α β : Type} (W : WX) (σ : St) (H : Hp) (N : Lg) (R : Gd → Hp → Lg → α → β → Prop) (Q : β → Hp → Prop) : Out α → Prop
  | .ok d hs' => ∀ v N' H', HRel G hs' N' H' → ExtE H N H' N' → R G H' N' d v → Q v H'
  | .exc c ns ws hs' => ∀ cls dd N' H', HRel G hs' N' H' → ExtE H N H' N' → XRep G H' N'.L c ns ws cls dd → W cls dd σ H'
  | .bad => False
def TR {α β : Type} (W : WX) (R : Gd → Hp → Lg → α → β → Prop) (m : Mx α) : St → Hp → (β → Hp → Prop) → Prop := fun σ H Q =>
  ∃ ρ hs N, HRel G hs N H ∧ ERel G H N ρ σ ∧ PostO G W σ H N R Q (m ρ hs)
def PostS (W : WX) (P : Nat → Prop) (H : Hp) (N : Lg) (D : Ends) : OutS → Prop
  | .nx ρ hs' => ∀ σ' N' H', HRel G hs' N' H' → Ext P H N H' N' → ERel G H' N' ρ σ' → D.nx σ' H'
  | .rt d hs' => ∀ v N' H', HRel G hs' N' H' → Ext P H N H' N' → RepS G H' N' d v → D.rt v H'
  | .bk ρ hs' => ∀ σ' N' H', HRel G hs' N' H' → Ext P H N H' N' → ERel G H' N' ρ σ' → D.bk σ' H'
  | .ct ρ hs' => ∀ σ' N' H', HRel G hs' N' H' → Ext P H N H' N' → ERel G H' N' ρ σ' → D.ct σ' H'
  | .exc c ns ws ρ hs' => ∀ cls dd σ' N' H', HRel G hs' N' H' → Ext P H N H' N' → ERel G H' N' ρ σ' → XRep G H' N'.L c ns ws cls dd → W cls dd σ' H'
  | .bad => False
def TS' (W : WX) (P : Nat → Prop) (m : MS) : TS := fun D σ H => ∃ ρ hs N, HRel G hs N H ∧ ERel G H N ρ σ ∧ PostS G W P H N D (m ρ hs)
end
abbrev Cx.g (X : Cx) : Gd := ⟨X.K, X.mg⟩
abbrev SE (X : Cx) (W : WX) (e : Expr) (m : ME) : Prop := PE X e (TR (Cx.g X) W RepS m)
abbrev ST (X : Cx) (W : WX) (e : Expr) (m : MT) : Prop := PT X e (TR (Cx.g X) W RB m)
abbrev SW (X : Cx) (W : WX) (e : Expr) (m : MT) : Prop := PW X e (TR (Cx.g X) W RB m)
abbrev SA (X : Cx) (W : WX) (es : List Expr) (m : MA) : Prop := PA X es (TR (Cx.g X) W RepSL m)
abbrev SS (X : Cx) (W : WX) (P : Nat → Prop) (st : Stmt) (m : MS) : Prop := PS X st (TS' (Cx.g X) W P m)
abbrev SSs (X : Cx) (W : WX) (P : Nat → Prop) (st : List Stmt) (m : MS) : Prop := PSs X st (TS' (Cx.g X) W P m)

section
variable {X : Cx} {e : Expr}
theorem pe_of {t t' : TE} (h : PE X e t) (k : ∀ σ H Q, t' σ H Q → t σ H Q) : PE X e t' := ⟨fun pins s σ H Q I q => h.run pins s σ H Q I (k σ H Q q)⟩
theorem pt_of {t t' : TT} (h : PT X e t) (k : ∀ σ H Q, t' σ H Q → t σ H Q) : PT X e t' := ⟨fun pins s σ H Q I q => h.run pins s σ H Q I (k σ H Q q)⟩
theorem pw_of {t t' : TT} (h : PW X e t) (k : ∀ σ H Q, t' σ H Q → t σ H Q) : PW X e t' := ⟨fun wh pins s σ H Q I q => h.run wh pins s σ H Q I (k σ H Q q)⟩
theorem pa_of {es : List Expr} {t t' : TA} (h : PA X es t) (k : ∀ σ H Q, t' σ H Q → t σ H Q) : PA X es t' := ⟨fun pos pins s σ H Q I q => h.run pos pins s σ H Q I (k σ H Q q)⟩
theorem ps_of {st : Stmt} {t t' : TS} (h : PS X st t) (k : ∀ D σ H, t' D σ H → t D σ H) : PS X st t' := ⟨fun pins s σ H D I q => h.run pins s σ H D I (k D σ H q)⟩
theorem pss_of {st : List Stmt} {t t' : TS} (h : PSs X st t) (k : ∀ D σ H, t' D σ H → t D σ H) : PSs X st t' := ⟨fun pins s σ H D I q => h.run pins s σ H D I (k D σ H q)⟩
end

section
variable {G : Gd} {W : WX} {σ : St} {H H1 : Hp} {N N1 : Lg} {P : Nat → Prop}
theorem PostO.ext {α β : Type} {R : Gd → Hp → Lg → α → β → Prop} {Q : β → Hp → Prop} {o : Out α} (x : ExtE H N H1 N1) (h : PostO G W σ H N R Q o) : PostO G W σ H1 N1 R Q o := by
  cases o with
  | ok d hs => exact fun v N' H' a b c => h v N' H' a (x.trans b) c
  | exc c ns ws hs => exact fun cls dd N' H' a b q => h cls dd N' H' a (x.trans b) q
  | bad => exact h
/-- what follows, over the state behind -/
theorem PostO.bind {α β γ δ : Type} {R : Gd → Hp → Lg → α → β → Prop} {R' : Gd → Hp → Lg → γ → δ → Prop} {Q : δ → Hp → Prop} {o : Out α} {f : α → Hs → Out γ} (h : PostO G W σ H N R' Q (o.bind f)) :
    PostO G W σ H N R (fun x H1 => ∃ hs1 N1 a, HRel G hs1 N1 H1 ∧ ExtE H N H1 N1 ∧ R G H1 N1 a x ∧ PostO G W σ H1 N1 R' Q (f a hs1)) o := by
  cases o with
  | ok d hs => exact fun v N' H' a b c => ⟨hs, N', d, a, b, c, PostO.ext b h⟩
  | exc c ns ws hs => exact h
  | bad => exact h
theorem PostO.mono {α β : Type} {R : Gd → Hp → Lg → α → β → Prop} {Q Q' : β → Hp → Prop} {o : Out α} (h : PostO G W σ H N R Q o) (k : ∀ v H', Q v H' → Q' v H') : PostO G W σ H N R Q' o := by
  cases o with
  | ok d hs => exact fun v N' H' a b c => k _ _ (h v N' H' a b c)
  | exc c ns ws hs => exact h
  | bad => exact h
theorem PostS.ext {D : Ends} {o : OutS} (x : Ext P H N H1 N1) (h : PostS G W P H N D o) : PostS G W P H1 N1 D o := by
  cases o with
  | nx ρ hs => exact fun σ' N' H' a b c => h σ' N' H' a (x.trans b) c
  | rt d hs => exact fun v N' H' a b c => h v N' H' a (x.trans b) c
  | bk ρ hs => exact fun σ' N' H' a b c => h σ' N' H' a (x.trans b) c
  | ct ρ hs => exact fun σ' N' H' a b c => h σ' N' H' a (x.trans b) c
  | exc c ns ws ρ hs => exact fun cls dd σ' N' H' a b e q => h cls dd σ' N' H' a (x.trans b) e q
  | bad => exact h
/-- from an expression to what a statement does with it -/
theorem PostO.bindS {α β : Type} {R : Gd → Hp → Lg → α → β → Prop} {D : Ends} {ρ : Env'} {o : Out α} {f : α → Hs → OutS} (he : ERel G H N ρ σ) (h : PostS G W P H N D (o.bindS ρ f)) :
    PostO G W σ H N R (fun x H1 => ∃ hs1 N1 a, HRel G hs1 N1 H1 ∧ ExtE H N H1 N1 ∧ R G H1 N1 a x ∧ PostS G W P H1 N1 D (f a hs1)) o := by
  cases o with
  | ok d hs => exact fun v N' H' a b c => ⟨hs, N', d, a, b, c, PostS.ext b.toP h⟩
  | exc c ns ws hs => exact fun cls dd N' H' a b q => h cls dd σ N' H' a b.toP (he.ext b) q
  | bad => exact h
end

/-! ### expressions -/
section
variable {X : Cx} {W : WX} {pos : Pos} {P : Nat → Prop}

def mVar (i : Nat) : ME := fun ρ hs => match ρ[i]? with
  | some (some d) => .ok d hs
  | _ => .bad
def mC (d : D) : ME := fun _ hs => .ok (.d d) hs
theorem se_var {i : Nat} {x : Str} (h : PE X (.Name x pos) (tVar i)) : SE X W (.Name x pos) (mVar i) := by
  refine pe_of h fun σ H Q ⟨ρ, hs, N, hr, he, q⟩ => ?_
  unfold mVar at q
  split at q
  · rename_i d hd
    obtain ⟨v, h1, h2⟩ := he.2 i d hd
    exact ⟨v, h1, q v N H hr Ext.refl h2⟩
  · exact q.elim
theorem se_c {e : Expr} {v : V} {d : D} (h : PE X e (tC v)) (r : ∀ H L, Rep (Cx.g X) H L d v) : SE X W e (mC d) := by
  refine pe_of h fun σ H Q ⟨ρ, hs, N, hr, he, q⟩ => ?_
  exact q v N H hr Ext.refl (r H N.L)
theorem se_int {i j} : SE X W (.Constant (.int i) j pos) (mC (.int i)) := se_c pe_int fun _ _ => rfl
theorem se_bl {i j} : SE X W (.Constant (.bool i) j pos) (mC (.bl i)) := se_c pe_bl fun _ _ => rfl
theorem se_non {j} : SE X W (.Constant .none j pos) (mC .non) := se_c pe_non fun _ _ => rfl
theorem se_str {i j} : SE X W (.Constant (.str i) j pos) (mC (.str i)) := se_c pe_str fun _ _ => rfl
/-- a module's constant, def, class -/
theorem se_glob {x : Str} {v : V} {u : Value} {d : D} (hg : Gl X x) (hm : X.mg x = some u) (r : RelV v u) (q : ∀ H L, Rep (Cx.g X) H L d v) (hd : (x == ("__debug__" : Str)) = false := by decide) : SE X W (.Name x pos) (mC d) :=
  se_c (pe_glob hg hm r hd) q

/-- an operation on two values, reading the live cells -/
abbrev F2 := Hs → SV → SV → Option D
def r2 (G : Gd) (f : F2) : R2 := fun x y H Q => ∃ hs N dx dy d, HRel G hs N H ∧ RepS G H N dx x ∧ RepS G H N dy y ∧ f hs dx dy = some d ∧ ∀ v H', HRel G hs N H' → ExtE H N H' N → Rep G H' N.L d v → Q v H'
def ofO (hs : Hs) : Option D → Out SV
  | some d => .ok (.d d) hs
  | none => .bad
def m2 (f : F2) (a b : ME) : ME := fun ρ hs => (a ρ hs).bind fun x hs1 => (b ρ hs1).bind fun y hs2 => ofO hs2 (f hs2 x y)
theorem r2_of {f : F2} {σ : St} {H H0 : Hp} {N N0 : Lg} {hs : Hs} {dx dy : SV} {x y : V} {Q : VK} {G : Gd} (h1 : HRel G hs N H) (h2 : RepS G H N dx x) (h3 : RepS G H N dy y) (q : PostO G W σ H N RepS Q (ofO hs (f hs dx dy))) : r2 G f x y H Q := by
  cases e : f hs dx dy with
  | none => rw [e] at q; exact q.elim
  | some d =>
    rw [e] at q
    exact ⟨hs, N, dx, dy, d, h1, h2, h3, e, fun v H' a b c => q v N H' a b c⟩
/-- the state behind the first of two -/
theorem TR.two {α β γ δ : Type} {R : Gd → Hp → Lg → α → β → Prop} {R' : Gd → Hp → Lg → γ → δ → Prop} {G : Gd} {ma : Mx α} {f : Env' → α → Hs → Out γ} {σ : St} {H : Hp} {Q : δ → Hp → Prop}
    (h : TR G W R' (fun ρ hs => (ma ρ hs).bind (f ρ)) σ H Q) :
    TR G W R ma σ H fun x H1 => ∃ ρ hs1 N1 a, HRel G hs1 N1 H1 ∧ ERel G H1 N1 ρ σ ∧ R G H1 N1 a x ∧ PostO G W σ H1 N1 R' Q (f ρ a hs1) := by
  obtain ⟨ρ, hs, N, hr, he, q⟩ := h
  refine ⟨ρ, hs, N, hr, he, (PostO.bind (R := R) q).mono fun v H' ⟨hs1, N1, a, q1, q2, q3, q4⟩ => ⟨ρ, hs1, N1, a, q1, he.ext q2, q3, q4⟩⟩
theorem op2_read {a b : Expr} {ma mb : ME} {f : F2} {G : Gd} {σ : St} {H : Hp} {Q : VK} (h : TR G W RepS (m2 f ma mb) σ H Q) : tOp (r2 G f) (TR G W RepS ma) (TR G W RepS mb) σ H Q := by
  obtain ⟨ρ, hs, N, hr, he, q⟩ := TR.two (R := RepS) h
  refine ⟨ρ, hs, N, hr, he, q.mono fun x H1 ⟨ρ1, hs1, N1, a, q1, q2, q3, q4⟩ => ?_⟩
  refine ⟨ρ1, hs1, N1, q1, q2, (PostO.bind (R := RepS) q4).mono fun y H2 ⟨hs2, N2, d, z1, z2, z3, z4⟩ => ?_⟩
  exact r2_of (H0 := H2) (N0 := N2) z1 (q3.ext z2) z3 z4
theorem se_op {op : Operator} {a b : Expr} {ma mb : ME} {f : F2} (ho : OpR X (binaryOp op) (r2 (Cx.g X) f)) (ha : SE X W a ma) (hb : SE X W b mb) : SE X W (.BinOp a op b pos) (m2 f ma mb) :=
  pe_of (pe_op ho ha hb) fun _ _ _ h => op2_read (a := a) (b := b) h
theorem se_cmp {op : CmpOp} {a b : Expr} {ma mb : ME} {f : F2} (ho : OpR X (compareOp op) (r2 (Cx.g X) f)) (ha : SE X W a ma) (hb : SE X W b mb) (hm : behindInMarks op b = false := by first | exact nomark _ | rfl) :
    SE X W (.Compare a [op] [b] pos) (m2 f ma mb) :=
  pe_of (pe_cmpR ho ha hb hm) fun _ _ _ h => op2_read (a := a) (b := b) h
/-- an operation on one value -/
abbrev F1 := Hs → SV → Option D
def r1 (G : Gd) (f : F1) : V → Hp → VK → Prop := fun x H Q => ∃ hs N dx d, HRel G hs N H ∧ RepS G H N dx x ∧ f hs dx = some d ∧ ∀ v H', HRel G hs N H' → ExtE H N H' N → Rep G H' N.L d v → Q v H'
def m1 (f : F1) (a : ME) : ME := fun ρ hs => (a ρ hs).bind fun x hs1 => ofO hs1 (f hs1 x)
theorem r1_of {f : F1} {σ : St} {H : Hp} {N : Lg} {hs : Hs} {dx : SV} {x : V} {Q : VK} {G : Gd} (h1 : HRel G hs N H) (h2 : RepS G H N dx x) (q : PostO G W σ H N RepS Q (ofO hs (f hs dx))) : r1 G f x H Q := by
  cases e : f hs dx with
  | none => rw [e] at q; exact q.elim
  | some d =>
    rw [e] at q
    exact ⟨hs, N, dx, d, h1, h2, e, fun v H' a b c => q v N H' a b c⟩
theorem se_un {op : UnaryOp} {a : Expr} {ma : ME} {f : F1} (ho : UnR X (unaryOp op) (r1 (Cx.g X) f)) (ha : SE X W a ma) : SE X W (.UnaryOp op a pos) (m1 f ma) := by
  refine pe_of (pe_un ho ha) fun σ H Q h => ?_
  obtain ⟨ρ, hs, N, hr, he, q⟩ := TR.two (R := RepS) h
  exact ⟨ρ, hs, N, hr, he, q.mono fun x H1 ⟨ρ1, hs1, N1, a, q1, q2, q3, q4⟩ => r1_of q1 q3 q4⟩

/-! ### tests -/
/-- a value as a test: by its truth -/
def truD (hs : Hs) : SV → Option Bool
  | .d .non => some false
  | .d (.bl b) => some b
  | .d (.int i) => some (i != 0)
  | .d (.str x) => if x.length ≤ sizeLine then some ((x.length : Int) != 0) else none
  | .d (.tup xs) => some (!xs.isEmpty)
  | .d (.lst xs) => some (!xs.isEmpty)
  | .r n => match hs[n]? with
    | some (.lst xs) => some (!xs.isEmpty)
    | _ => none
  | _ => none
def ofB (hs : Hs) : Option Bool → Out Bool
  | some b => .ok b hs
  | none => .bad
def mTru (a : ME) : MT := fun ρ hs => (a ρ hs).bind fun x hs1 => ofB hs1 (truD hs1 x)
theorem isEmpty_rep {G : Gd} {H : Hp} {L : Addr → Prop} {xs : List D} {vs : List V} (h : RepL G H L xs vs) : (!xs.isEmpty) = !vs.isEmpty := by
  cases xs with
  | nil => rw [show vs = [] from h]; rfl
  | cons d ds => obtain ⟨v, r, h1, _⟩ := h; rw [h1]; rfl
theorem tru_of {G : Gd} {H : Hp} {N : Lg} {hs : Hs} {dx : SV} {x : V} {k : Bool} (h1 : HRel G hs N H) (h2 : RepS G H N dx x) (h : truD hs dx = some k) : TruV G.K x H k := by
  cases dx with
  | d z =>
    have h2 : Rep G H N.L z x := h2
    cases z with
    | non => rw [show x = .non from h2]; exact (Option.some.inj h).symm
    | bl b => rw [show x = .bl b from h2]; exact (Option.some.inj h).symm
    | int i => rw [show x = .int i from h2]; exact (Option.some.inj h).symm
    | str y =>
      rw [show x = .str y from h2]
      simp only [truD] at h
      by_cases hy : y.length ≤ sizeLine
      · rw [if_pos hy] at h; exact ⟨hy, (Option.some.inj h).symm⟩
      · rw [if_neg hy] at h; cases h
    | tup xs =>
      obtain ⟨a, vs, rfl, q1, q2⟩ := h2
      exact .inr (.inl ⟨vs, q1, by rw [← isEmpty_rep q2]; exact (Option.some.inj h).symm⟩)
    | lst xs =>
      obtain ⟨a, vs, rfl, _, q1, q2⟩ := h2
      exact .inl ⟨vs, SqL.of q1, by rw [← isEmpty_rep q2]; exact (Option.some.inj h).symm⟩
    | _ => cases h
  | r n =>
    obtain ⟨a, rfl, hn⟩ := h2
    obtain ⟨c, hc, q, _⟩ := h1.get hn
    simp only [truD] at h
    rw [hc] at h
    cases c with
    | lst xs =>
      obtain ⟨vs, q1, q2⟩ := q
      exact .inl ⟨vs, SqL.of q1, by rw [← isEmpty_rep q2]; exact (Option.some.inj h).symm⟩
    | _ => cases h
theorem st_tru {a : Expr} {ma : ME} (ha : SE X W a ma) (he : ∀ whole, isTrue a X.env whole = (do let v ← whole; standAt a.pos; holding [v] (truthy v)) := by intro _; rfl) : ST X W a (mTru ma) := by
  refine pt_of (pt_truth ha he) fun σ H Q h => ?_
  obtain ⟨ρ, hs, N, hr, he, q⟩ := TR.two (R := RepS) h
  refine ⟨ρ, hs, N, hr, he, q.mono fun x H1 ⟨ρ1, hs1, N1, a, q1, q2, q3, q4⟩ => ?_⟩
  cases e : truD hs1 a with
  | none => rw [e] at q4; exact q4.elim
  | some b => rw [e] at q4; exact ⟨b, tru_of q1 q3 e, q4 b N1 H1 q1 Ext.refl rfl⟩
/-- a comparison as a test -/
def asB : SV → Option Bool
  | .d (.bl b) => some b
  | _ => none
def mB (a : ME) : MT := fun ρ hs => (a ρ hs).bind fun x hs1 => ofB hs1 (asB x)
theorem asB_of {G : Gd} {H : Hp} {N : Lg} {dx : SV} {x : V} {k : Bool} (h2 : RepS G H N dx x) (h : asB dx = some k) : x = .bl k := by
  cases dx with
  | r n => cases h
  | d z =>
    have h2 : Rep G H N.L z x := h2
    cases z with
    | bl b => rw [show x = .bl b from h2]; rw [Option.some.inj h]
    | _ => cases h
theorem st_cmp {op : CmpOp} {a b : Expr} {ma mb : ME} {f : F2} (ho : OpR X (compareOp op) (r2 (Cx.g X) f)) (ha : SE X W a ma) (hb : SE X W b mb) (hm : behindInMarks op b = false := by first | exact nomark _ | rfl) :
    ST X W (.Compare a [op] [b] pos) (mB (m2 f ma mb)) := by
  refine pt_of (pt_cmpR ho ha hb hm) fun σ H Q h => ?_
  have h2 := TR.two (R := RepS) h
  have h3 := op2_read (a := a) (b := b) h2
  refine show tOp _ _ _ σ H _ from ?_
  obtain ⟨ρ, hs, N, hr, he, q⟩ := h3
  refine ⟨ρ, hs, N, hr, he, q.mono fun x H1 ⟨ρ1, hs1, N1, hr1, he1, q1⟩ => ?_⟩
  refine ⟨ρ1, hs1, N1, hr1, he1, q1.mono fun y H2 ⟨hs2, N2, dx, dy, d, z1, z2, z3, z4, z5⟩ => ?_⟩
  refine ⟨hs2, N2, dx, dy, d, z1, z2, z3, z4, fun v H' y1 y2 y3 => ?_⟩
  obtain ⟨ρ', hs', N', a', w1, w2, w3, w4⟩ := z5 v H' y1 y2 y3
  cases e : asB a' with
  | none => rw [e] at w4; exact w4.elim
  | some b => rw [e] at w4; exact ⟨b, asB_of w3 e, w4 b N' H' w1 Ext.refl rfl⟩
/-- an expression that gives a bool, as a test -/
theorem st_val {e : Expr} {m : ME} (h : SE X W e m) (he : ∀ whole, isTrue e X.env whole = (do let v ← whole; standAt e.pos; holding [v] (truthy v)) := by intro _; rfl) : ST X W e (mB m) := by
  refine pt_of (pt_val h he) fun σ H Q h => ?_
  obtain ⟨ρ, hs, N, hr, he, q⟩ := TR.two (R := RepS) h
  refine ⟨ρ, hs, N, hr, he, q.mono fun x H1 ⟨ρ1, hs1, N1, a, q1, q2, q3, q4⟩ => ?_⟩
  cases e : asB a with
  | none => rw [e] at q4; exact q4.elim
  | some b => rw [e] at q4; exact ⟨b, asB_of q3 e, q4 b N1 H1 q1 Ext.refl rfl⟩
def mAnd (a b : MT) : MT := fun ρ hs => (a ρ hs).bind fun c hs1 => if c = true then b ρ hs1 else .ok false hs1
def mOr (a b : MT) : MT := fun ρ hs => (a ρ hs).bind fun c hs1 => if c = true then .ok true hs1 else b ρ hs1
def mNot (a : MT) : MT := fun ρ hs => (a ρ hs).bind fun c hs1 => .ok (!c) hs1
variable {a b : Expr} {rest : List Expr} {ma mb : MT}
theorem TR.twoB {γ δ : Type} {R' : Gd → Hp → Lg → γ → δ → Prop} {G : Gd} {ma : MT} {f : Env' → Bool → Hs → Out γ} {σ : St} {H : Hp} {Q : δ → Hp → Prop}
    (h : TR G W R' (fun ρ hs => (ma ρ hs).bind (f ρ)) σ H Q) :
    TR G W RB ma σ H fun x H1 => TR G W R' (fun ρ hs => f ρ x hs) σ H1 Q := by
  obtain ⟨ρ, hs, N, hr, he, q⟩ := TR.two (R := RB) h
  refine ⟨ρ, hs, N, hr, he, q.mono fun x H1 ⟨ρ1, hs1, N1, a, q1, q2, q3, q4⟩ => ?_⟩
  have q3 : a = x := q3
  subst q3
  exact ⟨ρ1, hs1, N1, q1, q2, q4⟩
theorem TR.ret {σ : St} {H : Hp} {Q : Bool → Hp → Prop} {G : Gd} {b : Bool} (h : TR G W RB (fun _ hs => .ok b hs) σ H Q) : Q b H := by
  obtain ⟨ρ, hs, N, hr, he, q⟩ := h
  exact q b N H hr Ext.refl rfl
theorem sw_and1 (ha : ST X W a ma) : SW X W (.BoolOp .And [a] pos) ma := pw_and1 ha
theorem sw_or1 (ha : ST X W a ma) : SW X W (.BoolOp .Or [a] pos) ma := pw_or1 ha
theorem sw_and (ha : ST X W a ma) (hb : SW X W (.BoolOp .And (b :: rest) pos) mb) : SW X W (.BoolOp .And (a :: b :: rest) pos) (mAnd ma mb) := by
  refine pw_of (pw_and ha hb) fun σ H Q h => ?_
  obtain ⟨ρ, hs, N, hr, he, q⟩ := TR.twoB h
  refine ⟨ρ, hs, N, hr, he, q.mono fun x H1 q1 => ?_⟩
  cases x with
  | true => exact q1
  | false => exact TR.ret q1
theorem sw_or (ha : ST X W a ma) (hb : SW X W (.BoolOp .Or (b :: rest) pos) mb) : SW X W (.BoolOp .Or (a :: b :: rest) pos) (mOr ma mb) := by
  refine pw_of (pw_or ha hb) fun σ H Q h => ?_
  obtain ⟨ρ, hs, N, hr, he, q⟩ := TR.twoB h
  refine ⟨ρ, hs, N, hr, he, q.mono fun x H1 q1 => ?_⟩
  cases x with
  | true => exact TR.ret q1
  | false => exact q1
theorem st_w {e : Expr} {m : MT} (h : SW X W e m) : ST X W e m := h.pt
theorem st_not (ha : ST X W a ma) : ST X W (.UnaryOp .Not a pos) (mNot ma) := by
  refine pt_of (pt_not ha) fun σ H Q h => ?_
  obtain ⟨ρ, hs, N, hr, he, q⟩ := TR.twoB h
  exact ⟨ρ, hs, N, hr, he, q.mono fun x H1 q1 => TR.ret q1⟩
/-- a test as a value: not, and, or of bools -/
def mV (a : MT) : ME := fun ρ hs => (a ρ hs).bind fun c hs1 => .ok (.d (.bl c)) hs1
def mAndV (a b : ME) : ME := fun ρ hs => (a ρ hs).bind fun x hs1 => match asB x with
  | some true => b ρ hs1
  | some false => .ok (.d (.bl false)) hs1
  | none => .bad
def mOrV (a b : ME) : ME := fun ρ hs => (a ρ hs).bind fun x hs1 => match asB x with
  | some true => .ok (.d (.bl true)) hs1
  | some false => b ρ hs1
  | none => .bad
def mNotV (a : ME) : ME := fun ρ hs => (a ρ hs).bind fun x hs1 => match asB x with
  | some c => .ok (.d (.bl (!c))) hs1
  | none => .bad
variable {ea eb : ME}
theorem TR.twoE {γ δ : Type} {R' : Gd → Hp → Lg → γ → δ → Prop} {G : Gd} {ma : ME} {f : Env' → SV → Hs → Out γ} {σ : St} {H : Hp} {Q : δ → Hp → Prop}
    (h : TR G W R' (fun ρ hs => (ma ρ hs).bind (f ρ)) σ H Q) :
    TR G W RepS ma σ H fun x H1 => ∃ ρ hs1 N1 a, HRel G hs1 N1 H1 ∧ ERel G H1 N1 ρ σ ∧ RepS G H1 N1 a x ∧ PostO G W σ H1 N1 R' Q (f ρ a hs1) := TR.two h
theorem se_one {op} (h : SE X W a ea) : SE X W (.BoolOp op [a] pos) ea := pe_one h
theorem se_and (ha : SE X W a ea) (hb : SE X W (.BoolOp .And (b :: rest) pos) eb) : SE X W (.BoolOp .And (a :: b :: rest) pos) (mAndV ea eb) := by
  refine pe_of (pe_and ha hb) fun σ H Q h => ?_
  obtain ⟨ρ, hs, N, hr, he, q⟩ := TR.twoE h
  refine ⟨ρ, hs, N, hr, he, q.mono fun x H1 ⟨ρ1, hs1, N1, a, q1, q2, q3, q4⟩ => ?_⟩
  cases e : asB a with
  | none => rw [e] at q4; exact q4.elim
  | some c =>
    rw [e] at q4
    refine ⟨c, asB_of q3 e, ?_⟩
    cases c with
    | true => exact ⟨ρ1, hs1, N1, q1, q2, q4⟩
    | false => exact q4 _ N1 H1 q1 Ext.refl rfl
theorem se_or (ha : SE X W a ea) (hb : SE X W (.BoolOp .Or (b :: rest) pos) eb) : SE X W (.BoolOp .Or (a :: b :: rest) pos) (mOrV ea eb) := by
  refine pe_of (pe_or ha hb) fun σ H Q h => ?_
  obtain ⟨ρ, hs, N, hr, he, q⟩ := TR.twoE h
  refine ⟨ρ, hs, N, hr, he, q.mono fun x H1 ⟨ρ1, hs1, N1, a, q1, q2, q3, q4⟩ => ?_⟩
  cases e : asB a with
  | none => rw [e] at q4; exact q4.elim
  | some c =>
    rw [e] at q4
    refine ⟨c, asB_of q3 e, ?_⟩
    cases c with
    | false => exact ⟨ρ1, hs1, N1, q1, q2, q4⟩
    | true => exact q4 _ N1 H1 q1 Ext.refl rfl
theorem se_not (ha : SE X W a ea) : SE X W (.UnaryOp .Not a pos) (mNotV ea) := by
  refine pe_of (pe_not ha) fun σ H Q h => ?_
  obtain ⟨ρ, hs, N, hr, he, q⟩ := TR.twoE h
  refine ⟨ρ, hs, N, hr, he, q.mono fun x H1 ⟨ρ1, hs1, N1, a, q1, q2, q3, q4⟩ => ?_⟩
  cases e : asB a with
  | none => rw [e] at q4; exact q4.elim
  | some c =>
    rw [e] at q4
    exact ⟨c, asB_of q3 e, q4 _ N1 H1 q1 Ext.refl rfl⟩
def mIf {α : Type} (c : MT) (a b : Mx α) : Mx α := fun ρ hs => (c ρ hs).bind fun k hs1 => if k = true then a ρ hs1 else b ρ hs1
theorem se_ifExp {c : Expr} {mc : MT} (hc : ST X W c mc) (ha : SE X W a ea) (hb : SE X W b eb) : SE X W (.IfExp c a b pos) (mIf mc ea eb) := by
  refine pe_of (pe_ifExp hc ha hb) fun σ H Q h => ?_
  obtain ⟨ρ, hs, N, hr, he, q⟩ := TR.twoB h
  refine ⟨ρ, hs, N, hr, he, q.mono fun x H1 q1 => ?_⟩
  cases x with
  | true => exact q1
  | false => exact q1

/-! ### argument lists, displays -/
def mNil : MA := fun _ hs => .ok [] hs
def mCons (a : ME) (r : MA) : MA := fun ρ hs => (a ρ hs).bind fun x hs1 => (r ρ hs1).bind fun xs hs2 => .ok (x :: xs) hs2
theorem sa_nil : SA X W [] mNil := by
  refine pa_of pa_nil fun σ H Q ⟨ρ, hs, N, hr, he, q⟩ => ?_
  exact q [] N H hr Ext.refl rfl
theorem sa_cons {es : List Expr} {mr : MA} (ha : SE X W a ea) (hr : SA X W es mr) (hs : starEach (a :: es) X.env = (false, eval a X.env) :: starEach es X.env := by rfl) : SA X W (a :: es) (mCons ea mr) := by
  refine pa_of (pa_cons ha hr hs) fun σ H Q h => ?_
  obtain ⟨ρ, hs, N, hr, he, q⟩ := TR.twoE h
  refine ⟨ρ, hs, N, hr, he, q.mono fun x H1 ⟨ρ1, hs1, N1, a, q1, q2, q3, q4⟩ => ?_⟩
  refine ⟨ρ1, hs1, N1, q1, q2, (PostO.bind (R := RepSL) q4).mono fun ys H2 ⟨hs2, N2, d, z1, z2, z3, z4⟩ => ?_⟩
  exact z4 (x :: ys) N2 H2 z1 Ext.refl ⟨x, ys, rfl, q3.ext z2, z3⟩
/-- all of them data -/
def datas : List SV → Option (List D)
  | [] => some []
  | .d x :: r => (datas r).map (x :: ·)
  | .r _ :: _ => none
theorem datas_of {G : Gd} {H : Hp} {N : Lg} : ∀ {ds : List SV} {xs : List D} {vs : List V}, RepSL G H N ds vs → datas ds = some xs → RepL G H N.L xs vs
  | [], _, _, h, e => by cases e; exact h
  | .d x :: r, xs, _, ⟨v, w, h1, h2, h3⟩, e => by
    unfold datas at e
    cases q : datas r with
    | none => rw [q] at e; cases e
    | some ys =>
      rw [q] at e
      cases e
      exact ⟨v, w, h1, h2, datas_of h3 q⟩
  | .r _ :: _, _, _, _, e => by cases e
def mTup (m : MA) : ME := fun ρ hs => (m ρ hs).bind fun xs hs1 => match datas xs with
  | some ds => if ds.length ≤ sizeLine then .ok (.d (.tup ds)) hs1 else .bad
  | none => .bad
def mLst (m : MA) : ME := fun ρ hs => (m ρ hs).bind fun xs hs1 => match datas xs with
  | some ds => if ds.length ≤ sizeLine then .ok (.d (.lst ds)) hs1 else .bad
  | none => .bad
theorem se_tup {es : List Expr} {m : MA} {x1} (h : SA X W es m) : SE X W (.Tuple es x1 pos) (mTup m) := by
  refine pe_of (pe_tup h) fun σ H Q h => ?_
  obtain ⟨ρ, hs, N, hr, he, q⟩ := TR.two (R := RepSL) h
  refine ⟨ρ, hs, N, hr, he, q.mono fun ys H1 ⟨ρ1, hs1, N1, a, q1, q2, q3, q4⟩ => ?_⟩
  cases e : datas a with
  | none => rw [e] at q4; exact q4.elim
  | some ds =>
    rw [e] at q4
    have rl := datas_of q3 e
    by_cases hl : ds.length ≤ sizeLine
    · simp only [if_pos hl] at q4
      refine ⟨by rw [← rl.length]; exact hl, fun p hp => ?_⟩
      exact q4 _ N1 _ (q1.alloc hp) (Ext.alloc hp) ⟨p, ys, rfl, SqT.of upd_same, RepL.ext (P := All) (Ext.alloc hp) _ _ rl⟩
    · simp only [if_neg hl] at q4; exact q4.elim
theorem se_lst {es : List Expr} {m : MA} (h : SA X W es m) : SE X W (.List es pos) (mLst m) := by
  refine pe_of (pe_lst h) fun σ H Q h => ?_
  obtain ⟨ρ, hs, N, hr, he, q⟩ := TR.two (R := RepSL) h
  refine ⟨ρ, hs, N, hr, he, q.mono fun ys H1 ⟨ρ1, hs1, N1, a, q1, q2, q3, q4⟩ => ?_⟩
  cases e : datas a with
  | none => rw [e] at q4; exact q4.elim
  | some ds =>
    rw [e] at q4
    have rl := datas_of q3 e
    by_cases hl : ds.length ≤ sizeLine
    · simp only [if_pos hl] at q4
      refine ⟨by rw [← rl.length]; exact hl, fun p hp => ?_⟩
      exact q4 _ N1 _ (q1.alloc hp) (Ext.alloc hp) ⟨p, ys, rfl, q1.fresh hp, upd_same, RepL.ext (P := All) (Ext.alloc hp) _ _ rl⟩
    · simp only [if_neg hl] at q4; exact q4.elim
end
end Py
end L2

set_option Elab.async false
set_option linter.all false
set_option maxRecDepth 100000
/-! Statements, targets, loops, comprehensions. -/
namespace L2
namespace Py
open PySem PySem.Spec PyProof.Rows

section
variable {X : Cx} {W : WX} {P : Nat → Prop} {pos : Pos} {st : Stmt} {rest : List Stmt} {e c : Expr} {m m2 : MS} {me : ME} {mc : MT}

def mSkip : MS := fun ρ hs => .nx ρ hs
def mSeq (a b : MS) : MS := fun ρ hs => (a ρ hs).bind b
theorem ss_nil : SSs X W P [] mSkip := pss_of pss_nil fun D σ H ⟨ρ, hs, N, hr, he, q⟩ => q σ N H hr Ext.refl he
theorem PostS.seq {G : Gd} {H : Hp} {N : Lg} {D : Ends} {o : OutS} {f : MS} (q : PostS G W P H N D (o.bind f)) : PostS G W P H N { D with nx := TS' G W P f D } o := by
  cases o with
  | nx ρ' hs' => exact fun σ' N' H' a b e => ⟨ρ', hs', N', a, e, PostS.ext b q⟩
  | rt d hs' => exact q
  | bk ρ' hs' => exact q
  | ct ρ' hs' => exact q
  | exc c ns ws ρ' hs' => exact q
  | bad => exact q
theorem ss_cons (h1 : SS X W P st m) (h2 : SSs X W P rest m2) : SSs X W P (st :: rest) (mSeq m m2) := by
  refine pss_of (pss_cons h1 h2) fun D σ H ⟨ρ, hs, N, hr, he, q⟩ => ⟨ρ, hs, N, hr, he, ?_⟩
  exact PostS.seq q
theorem ss_one (h1 : SS X W P st m) : SSs X W P [st] m := pss_one h1
theorem ss_pass : SS X W P (.Pass pos) mSkip := ps_of ps_pass fun D σ H ⟨ρ, hs, N, hr, he, q⟩ => q σ N H hr Ext.refl he
def mBrk : MS := fun ρ hs => .bk ρ hs
def mCnt : MS := fun ρ hs => .ct ρ hs
theorem ss_brk : SS X W P (.Break pos) mBrk := ps_of ps_break fun D σ H ⟨ρ, hs, N, hr, he, q⟩ => q σ N H hr Ext.refl he
theorem ss_cont : SS X W P (.Continue pos) mCnt := ps_of ps_continue fun D σ H ⟨ρ, hs, N, hr, he, q⟩ => q σ N H hr Ext.refl he
/-- from a statement's wish to its expression's -/
theorem TS'.two {α β : Type} {R : Gd → Hp → Lg → α → β → Prop} {G : Gd} {ma : Mx α} {f : Env' → α → Hs → OutS} {D : Ends} {σ : St} {H : Hp} (h : TS' G W P (fun ρ hs => (ma ρ hs).bindS ρ (f ρ)) D σ H) :
    TR G W R ma σ H fun x H1 => ∃ ρ hs1 N1 a H0 N0, HRel G hs1 N1 H1 ∧ ERel G H1 N1 ρ σ ∧ ExtE H0 N0 H1 N1 ∧ R G H1 N1 a x ∧ PostS G W P H1 N1 D (f ρ a hs1) := by
  obtain ⟨ρ, hs, N, hr, he, q⟩ := h
  refine ⟨ρ, hs, N, hr, he, (PostO.bindS (R := R) he q).mono fun v H' ⟨hs1, N1, a, q1, q2, q3, q4⟩ => ⟨ρ, hs1, N1, a, H, N, q1, he.ext q2, q2, q3, q4⟩⟩
def mDrop (a : ME) : MS := fun ρ hs => (a ρ hs).bindS ρ fun _ hs1 => .nx ρ hs1
theorem ss_expr (he : SE X W e me) (hs : swapsWith e none pos.line X.env = pure false := by rfl) : SS X W P (.Expr e pos) (mDrop me) := by
  refine ps_of (ps_expr he hs) fun D σ H h => ?_
  obtain ⟨ρ, hs, N, hr, hE, q⟩ := TS'.two (R := RepS) h
  exact ⟨ρ, hs, N, hr, hE, q.mono fun x H1 ⟨ρ1, hs1, N1, a, _, _, q1, q2, _, _, q4⟩ => q4 σ N1 H1 q1 Ext.refl q2⟩
def mRet (a : ME) : MS := fun ρ hs => (a ρ hs).bindS ρ fun d hs1 => .rt d hs1
theorem ss_ret (he : SE X W e me) : SS X W P (.Return (some e) pos) (mRet me) := by
  refine ps_of (ps_ret he) fun D σ H h => ?_
  obtain ⟨ρ, hs, N, hr, hE, q⟩ := TS'.two (R := RepS) h
  exact ⟨ρ, hs, N, hr, hE, q.mono fun x H1 ⟨ρ1, hs1, N1, a, _, _, q1, q2, _, q3, q4⟩ => q4 x N1 H1 q1 Ext.refl q3⟩
def mRetN : MS := fun ρ hs => .rt (.d .non) hs
theorem ss_retN : SS X W P (.Return none pos) mRetN := ps_of ps_retN fun D σ H ⟨ρ, hs, N, hr, he, q⟩ => q _ N H hr Ext.refl rfl
def mIfS (c : MT) (a b : MS) : MS := fun ρ hs => (c ρ hs).bindS ρ fun k hs1 => if k = true then a ρ hs1 else b ρ hs1
theorem ss_if {a b : List Stmt} {ma mb : MS} (hc : ST X W c mc) (ha : SSs X W P a ma) (hb : SSs X W P b mb) : SS X W P (.If c a b pos) (mIfS mc ma mb) := by
  refine ps_of (ps_if hc ha hb) fun D σ H h => ?_
  obtain ⟨ρ, hs, N, hr, hE, q⟩ := TS'.two (R := RB) h
  refine ⟨ρ, hs, N, hr, hE, q.mono fun x H1 ⟨ρ1, hs1, N1, a, _, _, q1, q2, _, q3, q4⟩ => ?_⟩
  have q3 : a = x := q3
  subst q3
  cases a with
  | true => exact ⟨ρ1, hs1, N1, q1, q2, q4⟩
  | false => exact ⟨ρ1, hs1, N1, q1, q2, q4⟩
def mSet (i : Nat) (a : ME) : MS := fun ρ hs => (a ρ hs).bindS ρ fun d hs1 => .nx (ρ.set i (some d)) hs1
theorem ss_set {i : Nat} {x : Str} {pos' : Pos} (hN : X.N.Nodup) (hi : X.N[i]? = some x) (hx : Loc X.env.scope x) (he : SE X W e me) (hs : swapsWith e (some (.Name x pos')) pos.line X.env = pure false := by rfl) (hf : X.fn x = true ∨ X.env.scope.names.lookup x = some .local := by first | exact .inl rfl | exact .inr rfl | assumption) :
    SS X W P (.Assign [.Name x pos'] e pos) (mSet i me) := by
  refine ps_of (ps_set hN hi hx he hs hf) fun D σ H h => ?_
  obtain ⟨ρ, hs, N, hr, hE, q⟩ := TS'.two (R := RepS) h
  refine ⟨ρ, hs, N, hr, hE, q.mono fun x H1 ⟨ρ1, hs1, N1, a, _, _, q1, q2, _, q3, q4⟩ => ?_⟩
  exact q4 _ N1 H1 q1 Ext.refl (q2.set q3)
/-- name = a new list that will be changed: a live cell -/
def mNewL (i : Nat) (a : MA) : MS := fun ρ hs => (a ρ hs).bindS ρ fun xs hs1 => match datas xs with
  | some ds => if ds.length ≤ sizeLine then .nx (ρ.set i (some (.r hs1.length))) (hs1 ++ [.lst ds]) else .bad
  | none => .bad
theorem Lg.push_at {N : Lg} {p : Addr} {h : ¬ N.L p} {k : Nat} (e : N.M.length = k) : (N.push p h).M[k]? = some (some p) := by
  show (N.M ++ [some p])[k]? = _
  rw [List.getElem?_append_right (by omega), e, Nat.sub_self]; rfl
theorem ss_newL {i : Nat} {x : Str} {pos' : Pos} {es : List Expr} {ma : MA} (hN : X.N.Nodup) (hi : X.N[i]? = some x) (hx : Loc X.env.scope x) (he : SA X W es ma) (hs : swapsWith (.List es pos) (some (.Name x pos')) pos.line X.env = pure false := by rfl) (hf : X.fn x = true ∨ X.env.scope.names.lookup x = some .local := by first | exact .inl rfl | exact .inr rfl | assumption)
    {pos2 : Pos} (hs2 : swapsWith (.List es pos) (some (.Name x pos')) pos2.line X.env = pure false := by rfl) :
    SS X W P (.Assign [.Name x pos'] (.List es pos) pos2) (mNewL i ma) := by
  refine ps_of (ps_set hN hi hx (pe_lst he) hs2 hf) fun D σ H h => ?_
  obtain ⟨ρ, hs, N, hr, hE, q⟩ := TS'.two (R := RepSL) h
  refine ⟨ρ, hs, N, hr, hE, q.mono fun ys H1 ⟨ρ1, hs1, N1, a, _, _, q1, q2, _, q3, q4⟩ => ?_⟩
  cases e : datas a with
  | none => rw [e] at q4; exact q4.elim
  | some ds =>
    rw [e] at q4
    have rl := datas_of q3 e
    by_cases hl : ds.length ≤ sizeLine
    · simp only [if_pos hl] at q4
      refine ⟨by rw [← rl.length]; exact hl, fun p hp => ?_⟩
      have ex : ExtE H1 N1 (upd H1 p (.lst ys)) (N1.push p (q1.fresh hp)) := Ext.push hp (q1.fresh hp)
      exact q4 _ (N1.push p (q1.fresh hp)) _ (q1.push hp trivial ⟨ys, upd_same, RepL.ext ex _ _ rl⟩) ex.toP ((q2.ext ex).set ⟨p, rfl, Lg.push_at q1.len⟩)
    · simp only [if_neg hl] at q4; exact q4.elim
end

/-! ### targets -/
inductive Tg where
  | nm (i : Nat)
  | tp (ts : List Tg)
mutual
def gOf (K : PySem.W.Frag) : Tg → TG
  | .nm i => gName i
  | .tp ts => gTup K ts.length (gsOf K ts)
def gsOf (K : PySem.W.Frag) : List Tg → TGs
  | [] => gNil
  | t :: ts => gCons (gOf K t) (gsOf K ts)
end
mutual
def mTg : Tg → SV → Env' → Option Env'
  | .nm i, d, ρ => some (ρ.set i (some d))
  | .tp ts, .d (.tup ds), ρ => if ds.length = ts.length then mTgs ts ds ρ else none
  | .tp _, _, _ => none
def mTgs : List Tg → List D → Env' → Option Env'
  | [], _, ρ => some ρ
  | _ :: _, [], _ => none
  | t :: ts, d :: ds, ρ => match mTg t (.d d) ρ with
    | some ρ1 => mTgs ts ds ρ1
    | none => none
end
mutual
def Tg.slots : Tg → List Nat
  | .nm i => [i]
  | .tp ts => Tg.slotsL ts
def Tg.slotsL : List Tg → List Nat
  | [] => []
  | t :: ts => t.slots ++ Tg.slotsL ts
end
theorem wipe_set {σ : St} {i : Nat} {x : Option V} : ∀ {vs : List Nat}, i ∈ vs → wipe (σ.set i x) vs = wipe σ vs
  | [], h => by simp at h
  | v :: vs, h => by
    unfold wipe
    by_cases hi : i ∈ vs
    · rw [wipe_set hi]
    · have e : i = v := by simpa [hi] using h
      subst e
      have key : ∀ vs : List Nat, i ∉ vs → wipe (σ.set i x) vs = (wipe σ vs).set i x := by
        intro vs
        induction vs with
        | nil => intro _; rfl
        | cons w ws ih =>
          intro hw
          have h1 : w ≠ i := fun e => hw (by rw [e]; exact List.mem_cons_self)
          have h2 : i ∉ ws := fun m => hw (List.mem_cons_of_mem _ m)
          unfold wipe
          rw [ih h2, List.set_comm _ _ (Ne.symm h1)]
      rw [key vs hi, List.set_set]
section
variable {G : Gd} {H : Hp} {N : Lg} {hs : Hs}
mutual
theorem gOf_run : ∀ (t : Tg) (d : SV) (v : V) (ρ ρ' : Env') (σ : St) (Q : St → Hp → Prop), RepS G H N d v → ERel G H N ρ σ → mTg t d ρ = some ρ' →
    (∀ σ', ERel G H N ρ' σ' → (∀ vs, (∀ i ∈ t.slots, i ∈ vs) → wipe σ' vs = wipe σ vs) → Q σ' H) → gOf G.K t v σ H Q
  | .nm i, d, v, ρ, ρ', σ, Q, r, e, h, k => by
    have h : some (ρ.set i (some d)) = some ρ' := by simpa only [mTg] using h
    cases h
    exact k _ (e.set r) fun vs hv => wipe_set (hv i (by simp [Tg.slots]))
  | .tp ts, .d (.tup ds), v, ρ, ρ', σ, Q, r, e, h, k => by
    obtain ⟨a, vs, rfl, h1, h2⟩ := r
    simp only [mTg] at h
    by_cases hl : ds.length = ts.length
    · rw [if_pos hl] at h
      exact ⟨a, vs, rfl, h1, by rw [← h2.length]; exact hl, gsOf_run ts ds vs ρ ρ' σ Q h2 hl e h fun σ' a b => k σ' a fun vs hv => b vs fun i hi => hv i (by simpa [Tg.slots] using hi)⟩
    · rw [if_neg hl] at h; cases h
  | .tp ts, .d .non, _, _, _, _, _, _, _, h, _ => by simp [mTg] at h
  | .tp ts, .d (.bl _), _, _, _, _, _, _, _, h, _ => by simp [mTg] at h
  | .tp ts, .d (.int _), _, _, _, _, _, _, _, h, _ => by simp [mTg] at h
  | .tp ts, .d (.str _), _, _, _, _, _, _, _, h, _ => by simp [mTg] at h
  | .tp ts, .d (.lst _), _, _, _, _, _, _, _, h, _ => by simp [mTg] at h
  | .tp ts, .d (.dct _ _), _, _, _, _, _, _, _, h, _ => by simp [mTg] at h
  | .tp ts, .d (.scr _), _, _, _, _, _, _, _, h, _ => by simp [mTg] at h
  | .tp ts, .d (.glo _), _, _, _, _, _, _, _, h, _ => by simp [mTg] at h
  | .tp ts, .d (.ty _), _, _, _, _, _, _, _, h, _ => by simp [mTg] at h
  | .tp ts, .r _, _, _, _, _, _, _, _, h, _ => by simp [mTg] at h
theorem gsOf_run : ∀ (ts : List Tg) (ds : List D) (vs : List V) (ρ ρ' : Env') (σ : St) (Q : St → Hp → Prop), RepL G H N.L ds vs → ds.length = ts.length → ERel G H N ρ σ → mTgs ts ds ρ = some ρ' →
    (∀ σ', ERel G H N ρ' σ' → (∀ vs, (∀ i ∈ Tg.slotsL ts, i ∈ vs) → wipe σ' vs = wipe σ vs) → Q σ' H) → gsOf G.K ts vs σ H Q
  | [], [], vs, ρ, ρ', σ, Q, r, _, e, h, k => by
    have h : some ρ = some ρ' := by simpa only [mTgs] using h
    cases h
    exact ⟨r, k σ e fun _ _ => rfl⟩
  | [], d :: ds, _, _, _, _, _, _, hl, _, _, _ => by simp at hl
  | t :: ts, [], _, _, _, _, _, _, hl, _, _, _ => by simp at hl
  | t :: ts, d :: ds, vs, ρ, ρ', σ, Q, ⟨v, r, h1, h2, h3⟩, hl, e, h, k => by
    simp only [mTgs] at h
    cases q : mTg t (.d d) ρ with
    | none => rw [q] at h; cases h
    | some ρ1 =>
      rw [q] at h
      refine ⟨v, r, h1, gOf_run t (.d d) v ρ ρ1 σ _ h2 e q fun σ1 e1 w1 => ?_⟩
      refine gsOf_run ts ds r ρ1 ρ' σ1 Q h3 (by simpa using hl) e1 h fun σ2 e2 w2 => k σ2 e2 fun vs hv => ?_
      rw [w2 vs fun i hi => hv i (by simp [Tg.slotsL, hi]), w1 vs fun i hi => hv i (by simp [Tg.slotsL, hi])]
end
end
section
variable {X : Cx} {pos : Pos}
theorem sg_nm {i : Nat} {x : Str} (hN : X.N.Nodup) (hi : X.N[i]? = some x) (hx : Loc X.env.scope x) (hf : X.fn x = true ∨ X.env.scope.names.lookup x = some .local := by first | exact .inl rfl | exact .inr rfl | assumption) : PG X (.Name x pos) (gOf X.K (.nm i)) := pg_name hN hi hx hf
theorem sgs_nil : PGs X [] (gsOf X.K []) := pgs_nil
theorem sgs_cons {e : Expr} {es : List Expr} {t : Tg} {ts : List Tg} (h1 : PG X e (gOf X.K t)) (h2 : PGs X es (gsOf X.K ts))
    (hs : (assignEach (e :: es) X.env).map (·.2) = assign e X.env :: (assignEach es X.env).map (·.2) := by rfl) : PGs X (e :: es) (gsOf X.K (t :: ts)) := pgs_cons h1 h2 hs
theorem sg_tp {es : List Expr} {k : Nat} {ts : List Tg} (hc : X.calm = true) (h : PGs X es (gsOf X.K ts)) (hn : (assignEach es X.env).length = ts.length := by rfl) (hst : (assignEach es X.env).findIdx? (·.1) = none := by rfl) : PG X (.Tuple es k pos) (gOf X.K (.tp ts)) := pg_tup hc h hn hst
variable {W : WX} {P : Nat → Prop} {e tg : Expr} {me : ME}
def mAsg (t : Tg) (a : ME) : MS := fun ρ hs => (a ρ hs).bindS ρ fun d hs1 => match mTg t d ρ with
  | some ρ1 => .nx ρ1 hs1
  | none => .bad
/-- target = value, the target names in tuples -/
theorem ss_asg {t : Tg} (he : SE X W e me) (hg : PG X tg (gOf X.K t)) (hs : swapsWithSole [tg] e pos.line X.env = pure false := by rfl) (hw : swappedStores [tg] e X.env = pure none := by rfl)
    (h1 : (assignEach [tg] X.env).map (·.2) = [assign tg X.env] := by rfl) : SS X W P (.Assign [tg] e pos) (mAsg t me) := by
  refine ps_of (ps_asg he hg hs hw h1) fun D σ H h => ?_
  obtain ⟨ρ, hs, N, hr, hE, q⟩ := TS'.two (R := RepS) h
  refine ⟨ρ, hs, N, hr, hE, q.mono fun x H1 ⟨ρ1, hs1, N1, a, _, _, q1, q2, _, q3, q4⟩ => ?_⟩
  cases z : mTg t a ρ1 with
  | none => rw [z] at q4; exact q4.elim
  | some ρ2 =>
    rw [z] at q4
    exact gOf_run (G := Cx.g X) t a x ρ1 ρ2 σ _ q3 q2 z fun σ' e' _ => q4 σ' N1 H1 q1 Ext.refl e'
/-- a, b = x, y of plain local names -/
def mPar (i j : Nat) (a : MA) : MS := fun ρ hs => (a ρ hs).bindS ρ fun xs hs1 => match xs with
  | [x, y] => .nx ((ρ.set i (some x)).set j (some y)) hs1
  | _ => .bad
theorem ss_par {i j : Nat} {x y : Str} {a b : Expr} {ma : MA} {px py pt : Pos} {kt k2 pt2} (hc : X.calm = true) (hN : X.N.Nodup) (hi : X.N[i]? = some x) (hj : X.N[j]? = some y) (hij : i ≠ j)
    (hx : X.env.scope.names.lookup x = some .local) (hy : X.env.scope.names.lookup y = some .local) (ha : SA X W [a, b] ma)
    (hw : swappedStores [.Tuple [.Name x px, .Name y py] kt pt] (.Tuple [a, b] k2 pt2) X.env = pure (some [x, y]))
    (hs : swapsWithSole [.Tuple [.Name x px, .Name y py] kt pt] (.Tuple [a, b] k2 pt2) pos.line X.env = pure false := by rfl) :
    SS X W P (.Assign [.Tuple [.Name x px, .Name y py] kt pt] (.Tuple [a, b] k2 pt2) pos) (mPar i j ma) := by
  refine ps_of (ps_par hc hN hi hj hij hx hy ha hw hs) fun D σ H h => ?_
  obtain ⟨ρ, hs, N, hr, hE, q⟩ := TS'.two (R := RepSL) h
  refine ⟨ρ, hs, N, hr, hE, q.mono fun ys H1 ⟨ρ1, hs1, N1, a, _, _, q1, q2, _, q3, q4⟩ => ?_⟩
  match a, q3, q4 with
  | [], _, q4 => exact q4.elim
  | [_], _, q4 => exact q4.elim
  | _ :: _ :: _ :: _, _, q4 => exact q4.elim
  | [u, w], ⟨v1, r1, e1, z1, v2, r2, e2, z2, e3⟩, q4 =>
    have e3 : r2 = [] := e3
    subst e3 e2 e1
    exact ⟨v1, v2, rfl, q4 _ N1 H1 q1 Ext.refl ((q2.set z1).set z2)⟩
end

/-! ### what is walked -/
/-- the iterator J walks the items, whatever is done meanwhile -/
structure Wk (G : Gd) (P : Nat → Prop) (J : It) (H : Hp) (N : Lg) (items : List D) : Prop where
  go : ∀ (i : Nat) (hs : Hs) (H' : Hp) (N' : Lg), HRel G hs N' H' → Ext P H N H' N' → i < items.length → J.go i H'
  yld : ∀ (i : Nat) (hs : Hs) (H' : Hp) (N' : Lg) (x : V) (H'' : Hp) (d : D), HRel G hs N' H' → Ext P H N H' N' → items[i]? = some d → J.yld i H' x H'' → HRel G hs N' H'' ∧ ExtE H' N' H'' N' ∧ Rep G H'' N'.L d x
  stop : ∀ (i : Nat) (hs : Hs) (H' : Hp) (N' : Lg), HRel G hs N' H' → Ext P H N H' N' → items.length ≤ i → J.stop i H'
abbrev MI := Mx (List D)
/-- an iterable: what it walks -/
def TIo (G : Gd) (W : WX) (m : MI) : TI := fun σ H R =>
  ∃ ρ hs N, HRel G hs N H ∧ ERel G H N ρ σ ∧ match m ρ hs with
    | .ok items hs' => ∀ J N' H', HRel G hs' N' H' → ExtE H N H' N' → (∀ P, Wk G P J H' N' items) → R J H'
    | .exc c ns ws hs' => ∀ cls dd N' H', HRel G hs' N' H' → ExtE H N H' N' → XRep G H' N'.L c ns ws cls dd → W cls dd σ H'
    | .bad => False
abbrev SI (X : Cx) (W : WX) (tg iter : Expr) (m : MI) : Prop := PI X tg iter (TIo (Cx.g X) W m)
theorem pi_of {X : Cx} {tg it : Expr} {t t' : TI} (h : PI X tg it t) (k : ∀ σ H R, t' σ H R → t σ H R) : PI X tg it t' := ⟨fun pins s σ H R I q => h.run pins s σ H R I (k σ H R q)⟩
section
variable {G : Gd} {H H' : Hp} {N N' : Lg} {P : Nat → Prop}
theorem wk_list {a : Addr} {vs : List V} {xs : List D} (h : H a = some (.lst vs)) (hl : ¬ N.L a) (r : RepL G H N.L xs vs) : Wk G P (Itl G.K a) H N xs where
  go := fun i hs H' N' _ e hi => ⟨vs, vs[i]'(by rw [← r.length]; exact hi), SqL.of (e.keep a _ h (.inl hl)), by simp [← r.length, hi]⟩
  yld := fun i hs H' N' x H'' d hr e hd ⟨h1, h2⟩ => by
    subst h1
    obtain ⟨v, q1, q2⟩ := r.get hd
    have := h2 vs (SqL.of (e.keep a _ h (.inl hl)))
    rw [q1] at this; cases this
    exact ⟨hr, Ext.refl, Rep.ext e _ _ q2⟩
  stop := fun i hs H' N' _ e hi => ⟨vs, SqL.of (e.keep a _ h (.inl hl)), by rw [← r.length]; exact hi⟩
theorem wk_scr {a : Addr} {vs : List V} {xs : List D} (h : ScrAt G.K H a vs) (r : RepL G H N.L xs vs) : Wk G P (Itl G.K a) H N xs where
  go := fun i hs H' N' _ e hi => ⟨vs, vs[i]'(by rw [← r.length]; exact hi), (e.scr h).sq, by simp [← r.length, hi]⟩
  yld := fun i hs H' N' x H'' d hr e hd ⟨h1, h2⟩ => by
    subst h1
    obtain ⟨v, q1, q2⟩ := r.get hd
    have := h2 vs (e.scr h).sq
    rw [q1] at this; cases this
    exact ⟨hr, Ext.refl, Rep.ext e _ _ q2⟩
  stop := fun i hs H' N' _ e hi => ⟨vs, (e.scr h).sq, by rw [← r.length]; exact hi⟩
theorem wk_tup {a : Addr} {vs : List V} {xs : List D} (h : SqT G.K H a vs) (r : RepL G H N.L xs vs) : Wk G P (Itt G.K a) H N xs where
  go := fun i hs H' N' _ e hi => ⟨vs, vs[i]'(by rw [← r.length]; exact hi), e.sqT h, by simp [← r.length, hi]⟩
  yld := fun i hs H' N' x H'' d hr e hd ⟨h1, h2⟩ => by
    subst h1
    obtain ⟨v, q1, q2⟩ := r.get hd
    have := h2 vs (e.sqT h)
    rw [q1] at this; cases this
    exact ⟨hr, Ext.refl, Rep.ext e _ _ q2⟩
  stop := fun i hs H' N' _ e hi => ⟨vs, e.sqT h, by rw [← r.length]; exact hi⟩
def rangeD (lo : Int) (n : Nat) : List D := (List.range n).map fun (i : Nat) => D.int (lo + (i : Int))
theorem wk_range {lo : Int} {n : Nat} : Wk G P (Itr lo n) H N (rangeD lo n) where
  go := fun i hs H' N' _ e hi => by show i < n; simpa [rangeD] using hi
  yld := fun i hs H' N' x H'' d hr e hd ⟨h1, h2⟩ => by
    subst h1 h2
    have hi : i < n := by
      have := (List.getElem?_eq_some_iff.mp hd).1
      simpa [rangeD] using this
    have : (rangeD lo n)[i]? = some (.int (lo + i)) := by simp [rangeD, hi]
    rw [this] at hd; cases hd
    exact ⟨hr, Ext.refl, rfl⟩
  stop := fun i hs H' N' _ e hi => by show n ≤ i; simpa [rangeD] using hi
end

/-! ### for, while -/
def mForL (t : Tg) (body : MS) : List D → MS
  | [], ρ, hs => .nx ρ hs
  | x :: xs, ρ, hs => match mTg t (.d x) ρ with
    | none => .bad
    | some ρ1 => match body ρ1 hs with
      | .nx ρ2 hs2 => mForL t body xs ρ2 hs2
      | .ct ρ2 hs2 => mForL t body xs ρ2 hs2
      | .bk ρ2 hs2 => .nx ρ2 hs2
      | .rt d hs2 => .rt d hs2
      | .exc c ns ws ρ2 hs2 => .exc c ns ws ρ2 hs2
      | .bad => .bad
def mFor (t : Tg) (mi : MI) (body : MS) : MS := fun ρ hs => (mi ρ hs).bindS ρ fun items hs1 => mForL t body items ρ hs1
section
variable {X : Cx} {W : WX} {P : Nat → Prop} {pos : Pos}
theorem ss_for {tg iter : Expr} {body : List Stmt} {t : Tg} {mi : MI} {mb : MS} (hp : PassesOwn (model X.prog X.w) X.A X.env X.xe) (hc : X.calm = true) (hi : SI X W tg iter mi) (hg : PG X tg (gOf X.K t)) (hb : SSs X W P body mb)
    (hs : ∀ x, foldedSetIterable iter X.env x = pure x := by intro _; rfl) : SS X W P (.For tg iter body [] pos) (mFor t mi mb) := by
  refine ps_of (ps_for hp hc hi hg hb hs) fun D σ H ⟨ρ, hs, N, hr, he, q⟩ => ?_
  refine ⟨ρ, hs, N, hr, he, ?_⟩
  simp only [mFor] at q
  cases em : mi ρ hs with
  | bad => rw [em] at q; exact q.elim
  | exc c ns ws hs' => rw [em] at q; exact fun cls dd N' H' a b z => q cls dd σ N' H' a b.toP (he.ext b) z
  | ok items hs1 =>
    rw [em] at q
    intro J N1 H1 hr1 ex1 wk
    have wk := wk P
    have q1 : PostS (Cx.g X) W P H1 N1 D (mForL t mb items ρ hs1) := PostS.ext ex1.toP q
    refine ⟨fun i m σ' H' => ∃ ρ' hs' N', m = items.length - i ∧ i ≤ items.length ∧ HRel (Cx.g X) hs' N' H' ∧ ERel (Cx.g X) H' N' ρ' σ' ∧ Ext P H1 N1 H' N' ∧ PostS (Cx.g X) W P H' N' D (mForL t mb (items.drop i) ρ' hs'),
      ⟨items.length, ρ, hs1, N1, by simp, Nat.zero_le _, hr1, he.ext ex1, Ext.refl, q1⟩, ?_⟩
    rintro i m σ' H' ⟨ρ', hs', N', rfl, hi, hr', he', ex', q'⟩
    by_cases hlt : i < items.length
    · refine .inr ⟨wk.go i hs' H' N' hr' ex' hlt, fun σ2 H2 => ∃ ρ2 hs2 N2, HRel (Cx.g X) hs2 N2 H2 ∧ ERel (Cx.g X) H2 N2 ρ2 σ2 ∧ Ext P H1 N1 H2 N2 ∧ PostS (Cx.g X) W P H2 N2 D (mForL t mb (items.drop (i + 1)) ρ2 hs2),
        fun σ2 H2 ⟨ρ2, hs2, N2, a, b, c, d⟩ => ⟨items.length - (i + 1), by omega, ρ2, hs2, N2, rfl, hlt, a, b, c, d⟩, fun x H'' y => ?_⟩
      have hd : items[i]? = some items[i] := by simp [hlt]
      obtain ⟨hr2, ex2, rx⟩ := wk.yld i hs' H' N' x H'' _ hr' ex' hd y
      rw [List.drop_eq_getElem_cons hlt] at q'
      simp only [mForL] at q'
      cases et : mTg t (.d items[i]) ρ' with
      | none => rw [et] at q'; exact q'.elim
      | some ρ1 =>
        rw [et] at q'
        refine gOf_run (G := Cx.g X) t (.d items[i]) x ρ' ρ1 σ' _ rx (he'.ext ex2) et fun σ2 he2 _ => ?_
        refine ⟨ρ1, hs', N', hr2, he2, ?_⟩
        have q2 := PostS.ext (P := P) ex2.toP q'
        cases eb : mb ρ1 hs' with
        | nx ρ2 hs2 =>
          simp only [eb] at q2
          exact fun σ3 N3 H3 a b c => ⟨ρ2, hs2, N3, a, c, ex'.trans (ex2.toP.trans b), PostS.ext b q2⟩
        | ct ρ2 hs2 =>
          simp only [eb] at q2
          exact fun σ3 N3 H3 a b c => ⟨ρ2, hs2, N3, a, c, ex'.trans (ex2.toP.trans b), PostS.ext b q2⟩
        | bk ρ2 hs2 => simp only [eb] at q2; exact q2
        | rt d hs2 => simp only [eb] at q2; exact q2
        | exc c ns ws ρ2 hs2 => simp only [eb] at q2; exact q2
        | bad => simp only [eb] at q2; exact q2
    · have e : i = items.length := by omega
      subst e
      rw [List.drop_length] at q'
      exact .inl ⟨wk.stop _ hs' H' N' hr' ex' (Nat.le_refl _), q' σ' N' H' hr' Ext.refl he'⟩
def mWhileL (c : MT) (body : MS) : Nat → MS
  | 0, _, _ => .bad
  | n + 1, ρ, hs => match c ρ hs with
    | .ok true hs1 => match body ρ hs1 with
      | .nx ρ2 hs2 => mWhileL c body n ρ2 hs2
      | .ct ρ2 hs2 => mWhileL c body n ρ2 hs2
      | .bk ρ2 hs2 => .nx ρ2 hs2
      | .rt d hs2 => .rt d hs2
      | .exc c ns ws ρ2 hs2 => .exc c ns ws ρ2 hs2
      | .bad => .bad
    | .ok false hs1 => .nx ρ hs1
    | .exc c ns ws hs1 => .exc c ns ws ρ hs1
    | .bad => .bad
theorem ss_while {c : Expr} {body : List Stmt} {mc : MT} {mb : MS} (n : Nat) (hp : PassesOwn (model X.prog X.w) X.A X.env X.xe) (hc : ST X W c mc) (hb : SSs X W P body mb) : SS X W P (.While c body [] pos) (mWhileL mc mb n) := by
  refine ps_of (ps_while hp hc hb) fun D σ H ⟨ρ, hs, N, hr, he, q⟩ => ?_
  refine ⟨fun m σ' H' => ∃ ρ' hs' N', HRel (Cx.g X) hs' N' H' ∧ ERel (Cx.g X) H' N' ρ' σ' ∧ Ext P H N H' N' ∧ PostS (Cx.g X) W P H' N' D (mWhileL mc mb m ρ' hs'), ⟨n, ρ, hs, N, hr, he, Ext.refl, q⟩, ?_⟩
  rintro m σ1 H1 ⟨ρ1, hs1, N1, hr1, he1, ex1, q1⟩
  cases m with
  | zero => exact q1.elim
  | succ m =>
    simp only [mWhileL] at q1
    refine ⟨ρ1, hs1, N1, hr1, he1, ?_⟩
    cases ec : mc ρ1 hs1 with
    | bad => simp only [ec] at q1; exact q1.elim
    | exc c ns ws hs' => simp only [ec] at q1; exact fun cls dd N' H' a b z => q1 cls dd σ1 N' H' a b.toP (he1.ext b) z
    | ok k hs2 =>
      cases k with
      | false =>
        simp only [ec] at q1
        intro v N' H' a b z
        have z : false = v := z
        subst z
        rw [if_neg Bool.false_ne_true]
        exact q1 σ1 N' H' a b.toP (he1.ext b)
      | true =>
        simp only [ec] at q1
        intro v N2 H2 a b z
        have z : true = v := z
        subst z
        rw [if_pos rfl]
        refine ⟨fun σ' H' => ∃ ρ' hs' N', HRel (Cx.g X) hs' N' H' ∧ ERel (Cx.g X) H' N' ρ' σ' ∧ Ext P H N H' N' ∧ PostS (Cx.g X) W P H' N' D (mWhileL mc mb m ρ' hs'), fun σ' H' w => ⟨m, Nat.lt_succ_self m, w⟩, ρ1, hs2, N2, a, he1.ext b, ?_⟩
        have q2 := PostS.ext (P := P) b.toP q1
        cases eb : mb ρ1 hs2 with
        | nx ρ2 hs2 =>
          simp only [eb] at q2
          exact fun σ3 N3 H3 a' b' c' => ⟨ρ2, hs2, N3, a', c', ex1.trans (b.toP.trans b'), PostS.ext b' q2⟩
        | ct ρ2 hs2 =>
          simp only [eb] at q2
          exact fun σ3 N3 H3 a' b' c' => ⟨ρ2, hs2, N3, a', c', ex1.trans (b.toP.trans b'), PostS.ext b' q2⟩
        | bk ρ2 hs2 => simp only [eb] at q2; exact q2
        | rt d hs2 => simp only [eb] at q2; exact q2
        | exc c ns ws ρ2 hs2 => simp only [eb] at q2; exact q2
        | bad => simp only [eb] at q2; exact q2
end
end Py
end L2

set_option Elab.async false
set_option linter.all false
set_option maxRecDepth 100000
/-! Comprehensions. -/
namespace L2
namespace Py
open PySem PySem.Spec PyProof.Rows

/-- p is live, but not one of this def's cells -/
def Lg.hide (N : Lg) (p : Addr) : Lg where
  M := N.M
  L := fun a => N.L a ∨ a = p
  liv := fun a h => .inl (N.liv a h)
  nd := N.nd
def Lg.unhide (N : Lg) (p : Addr) (h : some p ∉ N.M) : Lg where
  M := N.M
  L := fun a => N.L a ∧ a ≠ p
  liv := fun a q => ⟨N.liv a q, by rintro rfl; exact h q⟩
  nd := N.nd
def Lg.own (N : Lg) (p : Addr) (hl : N.L p) (h : some p ∉ N.M) : Lg where
  M := N.M ++ [some p]
  L := N.L
  liv := fun a q => by
    rcases List.mem_append.mp q with z | z
    · exact N.liv a z
    · have : some a = some p := by simpa using z
      rw [Option.some.inj this]; exact hl
  nd := fun i j a h1 h2 => by
    have key : ∀ k : Nat, (N.M ++ [some p])[k]? = some (some a) → (k < N.M.length ∧ N.M[k]? = some (some a)) ∨ (k = N.M.length ∧ a = p) := fun k hk => by
      by_cases hl : k < N.M.length
      · rw [List.getElem?_append_left hl] at hk; exact .inl ⟨hl, hk⟩
      · have hk' : k < (N.M ++ [some p]).length := (List.getElem?_eq_some_iff.mp hk).1
        have e : k = N.M.length := by simp at hk'; omega
        subst e
        rw [List.getElem?_append_right (Nat.le_refl _)] at hk
        simp at hk
        exact .inr ⟨rfl, hk.symm⟩
    rcases key i h1 with ⟨l1, q1⟩ | ⟨l1, q1⟩ <;> rcases key j h2 with ⟨l2, q2⟩ | ⟨l2, q2⟩
    · exact N.nd i j a q1 q2
    · subst q2; exact absurd (List.mem_of_getElem? q1) h
    · subst q1; exact absurd (List.mem_of_getElem? q2) h
    · rw [l1, l2]
section
variable {G : Gd} {H H' H1 H2 : Hp} {N N' N1 N2 : Lg} {hs : Hs} {P : Nat → Prop} {p : Addr} {o : HO}
theorem Ext.hide (hp : H p = none) : Ext P H N (upd H p o) (N.hide p) := by
  refine ⟨fun a u h _ => by rw [upd_ne (ne_of_none h hp)]; exact h, fun a h => ?_, fun i a _ h => h, fun a h _ _ => .inl h, fun i a h1 h2 h3 => h3, fun a h => ?_, fun a _ _ h => ?_⟩
  · rcases h with z | z
    · exact .inl z
    · right; rw [z]; exact hp
  · have : a ≠ p := by rintro rfl; exact h hp
    rw [upd_ne this]; exact h
  · have : a ≠ p := by rintro rfl; exact h hp
    rw [upd_ne this]
theorem HRel.hide (h : HRel G hs N H) (hp : H p = none) (hm : Mut (some o)) : HRel G hs (N.hide p) (upd H p o) := by
  refine ⟨h.len, fun i c a h1 h2 => ?_, fun a ha => ?_⟩
  · have hne : a ≠ p := by
      rintro rfl
      exact h.fresh hp (N.liv _ (List.mem_of_getElem? h2))
    exact (h.at_ i c a h1 h2).ext (Ext.hide (P := All) hp) (upd_ne hne)
  · rcases ha with ha | ha
    · have hne : a ≠ p := by
        rintro rfl
        exact h.there ha hp
      rw [upd_ne hne]; exact h.mu a ha
    · rw [ha, upd_same]; exact hm
/-- a hidden live thing is written: by its owner -/
theorem Ext.ownW (hl : N.L p) (h : some p ∉ N.M) (hm : Mut (H p)) : ExtE H (N.own p hl h) (upd H p o) (N.own p hl h) := Ext.write (by simp [Lg.own]) hm
theorem HRel.hidW (h : HRel G hs N H) (hl : N.L p) (hn : some p ∉ N.M) (hm : Mut (some o)) : HRel G hs N (upd H p o) := by
  refine ⟨h.len, fun i c a h1 h2 => ?_, fun a ha => ?_⟩
  · have hne : a ≠ p := by
      rintro rfl
      exact hn (List.mem_of_getElem? h2)
    exact CRel.ext (N := N.own p hl hn) (N' := N.own p hl hn) (Ext.ownW hl hn (h.mu p hl)) (upd_ne hne) (h.at_ i c a h1 h2)
  · by_cases e : a = p
    · rw [e, upd_same]; exact hm
    · rw [upd_ne e]; exact h.mu a ha
theorem Ext.unhide (e : ExtE H N H' N') (h1 : some p ∉ N.M) (h2 : some p ∉ N'.M) (hl : N.L p) (hp : H p ≠ none) : ExtE H (N.unhide p h1) H' (N'.unhide p h2) := by
  refine ⟨fun a u h q => ?_, fun a h => ?_, fun i a _ h => e.pre i a trivial h, fun a h n _ => ⟨e.sub a h.1 n fun _ _ => trivial, h.2⟩, fun i a h n q => e.old i a h.1 n q, e.there, fun a h n m => e.hid a h.1 n m⟩
  · by_cases z : a = p
    · subst z; rw [e.hid a hl h1 hp]; exact h
    · refine e.keep a u h ?_
      rcases q with q | q
      · exact .inl fun w => q ⟨w, z⟩
      · exact .inr q
  · rcases e.new a h.1 with z | z
    · exact .inl ⟨z, h.2⟩
    · exact .inr z
theorem Ext.wr (e : ExtE H N H' N') (hp : H p = none) : ExtE H N (upd H' p o) N' := by
  have ne : ∀ a, H a ≠ none → a ≠ p := fun a h => by rintro rfl; exact h hp
  refine ⟨fun a u h q => ?_, e.new, e.pre, e.sub, e.old, fun a h => ?_, fun a h n m => ?_⟩
  · rw [upd_ne (ne a (by rw [h]; exact fun z => nomatch z))]; exact e.keep a u h q
  · rw [upd_ne (ne a h)]; exact e.there a h
  · rw [upd_ne (ne a m)]; exact e.hid a h n m
theorem Ext.rehide {h2 : some p ∉ N'.M} (e : ExtE H N H' (N'.unhide p h2)) (hp : H p = none) : ExtE H N H' N' := by
  refine ⟨e.keep, fun a h => ?_, fun i a _ h => e.pre i a trivial h, fun a h n q => (e.sub a h n q).1, fun i a h n q => e.old i a h n q, e.there, e.hid⟩
  by_cases z : a = p
  · right; rw [z]; exact hp
  · exact e.new a ⟨h, z⟩
theorem HRel.unhide (h : HRel G hs N H) (hn : some p ∉ N.M) : HRel G hs (N.unhide p hn) H :=
  ⟨h.len, fun i c a h1 h2 => (h.at_ i c a h1 h2).sub fun b q => q.1, fun a ha => h.mu a ha.1⟩
end
def wipeE (ρ : Env') : List Nat → Env'
  | [] => ρ
  | v :: vs => (wipeE ρ vs).set v none
theorem wipeE_length (ρ : Env') : ∀ vs : List Nat, (wipeE ρ vs).length = ρ.length
  | [] => rfl
  | v :: vs => by unfold wipeE; rw [List.length_set, wipeE_length ρ vs]
theorem wipeE_some {ρ : Env'} {i : Nat} {x : SV} : ∀ {vs : List Nat}, (wipeE ρ vs)[i]? = some (some x) → ρ[i]? = some (some x) ∧ i ∉ vs
  | [], h => ⟨h, by simp⟩
  | v :: vs, h => by
    unfold wipeE at h
    by_cases hi : v = i
    · subst hi
      by_cases hv : v < (wipeE ρ vs).length
      · rw [List.getElem?_set_self hv] at h; cases h
      · rw [List.getElem?_eq_none (by simpa using hv)] at h; cases h
    · rw [List.getElem?_set_ne hi] at h
      obtain ⟨h1, h2⟩ := wipeE_some h
      exact ⟨h1, by simp only [List.mem_cons, not_or]; exact ⟨fun e => hi e.symm, h2⟩⟩
theorem ERel.wipe {G : Gd} {H : Hp} {N : Lg} {ρ : Env'} {σ : St} (h : ERel G H N ρ σ) (vs : List Nat) : ERel G H N (wipeE ρ vs) (L2.wipe σ vs) := by
  refine ⟨by rw [wipeE_length, wipe_length]; exact h.1, fun i d q => ?_⟩
  obtain ⟨h1, h2⟩ := wipeE_some q
  obtain ⟨v, q1, q2⟩ := h.2 i d h1
  exact ⟨v, by rw [wipe_out h2]; exact q1, q2⟩
theorem wipe_set_none {σ : St} : ∀ {vs : List Nat} {i : Nat}, i ∈ vs → (L2.wipe σ vs).set i none = L2.wipe σ vs
  | [], _, h => by simp at h
  | v :: vs, i, h => by
    unfold L2.wipe
    by_cases e : i = v
    · subst e; rw [List.set_set]
    · have hi : i ∈ vs := by simpa [e] using h
      rw [List.set_comm _ _ (Ne.symm e), wipe_set_none hi]
theorem wipe_wipe {σ : St} {vs : List Nat} : ∀ {us : List Nat}, (∀ i ∈ us, i ∈ vs) → L2.wipe (L2.wipe σ vs) us = L2.wipe σ vs
  | [], _ => rfl
  | u :: us, h => by
    rw [show L2.wipe (L2.wipe σ vs) (u :: us) = (L2.wipe (L2.wipe σ vs) us).set u none from rfl, wipe_wipe fun i hi => h i (List.mem_cons_of_mem _ hi), wipe_set_none (h u List.mem_cons_self)]

def Out.bind0 {α β : Type} (o : Out α) (f : α → Hs → Out β) : Out β :=
  match o with
  | .ok a h => f a h
  | _ => .bad
/-- the items that a comprehension makes, behind acc -/
def mLcL (t : Tg) (tt : MT) (te : ME) (ρw : Env') : List D → List D → Hs → Out (List D)
  | [], acc, hs => .ok acc hs
  | x :: xs, acc, hs => match mTg t (.d x) ρw with
    | none => .bad
    | some ρ1 => (tt ρ1 hs).bind0 fun k hs1 => if k = true then (te ρ1 hs1).bind0 fun y hs2 => match y with
        | .d d => if acc.length < sizeLine then mLcL t tt te ρw xs (acc ++ [d]) hs2 else .bad
        | .r _ => .bad
      else mLcL t tt te ρw xs acc hs1
def mYes : MT := fun _ hs => .ok true hs
def mLc (vs : List Nat) (t : Tg) (mi : MI) (tt : MT) (te : ME) : MI := fun ρ hs => (mi ρ hs).bind fun items hs1 => mLcL t tt te (wipeE ρ vs) items [] hs1
def mLcE (vs : List Nat) (t : Tg) (mi : MI) (tt : MT) (te : ME) : ME := fun ρ hs => (mLc vs t mi tt te ρ hs).bind fun xs hs1 => .ok (.d (.lst xs)) hs1
abbrev W0 : WX := fun _ _ _ _ => False
abbrev STs (X : Cx) (W : WX) (ifs : List Expr) (m : MT) : Prop := PTs X ifs (TR (Cx.g X) W RB m)
section
variable {X : Cx} {W : WX}
theorem sts_nil : STs X W [] mYes := ⟨fun pins s σ H Q I ⟨ρ, hs, N, hr, he, q⟩ => pts_nil.run pins s σ H Q I (q true N H hr Ext.refl rfl)⟩
theorem sts_one {c : Expr} {m : MT} (h : ST X W c m) : STs X W [c] m := pts_one h
theorem lc_read {mi : MI} {t : Tg} {tt : MT} {te : ME} {vs : List Nat} {G : Gd} {σ : St} {H : Hp} {Q : VK} (hv : ∀ i ∈ t.slots, i ∈ vs) (h : TR G W RepS (mLcE vs t mi tt te) σ H Q) :
    tLc (TIo G W mi) (gOf G.K t) (TR G W0 RB tt) (TR G W0 RepS te) vs σ H Q := by
  obtain ⟨ρ, hs, N, hr, he, q⟩ := h
  refine ⟨ρ, hs, N, hr, he, ?_⟩
  simp only [mLcE, mLc] at q
  cases em : mi ρ hs with
  | bad => rw [em] at q; exact q.elim
  | exc c ns ws hs' => rw [em] at q; exact q
  | ok items hs1 =>
    rw [em] at q
    intro J N1 H1 hr1 ex1 wk p hp
    have wk := wk All
    have he1 := (he.ext ex1).wipe vs
    refine ⟨fun i m H' => ∃ hs' N' acc us, ∃ hm : some p ∉ N'.M, m = items.length - i ∧ i ≤ items.length ∧ HRel G hs' N' H' ∧ N'.L p ∧ H' p = some (.lst us) ∧ RepL G H' N'.L acc us ∧ ExtE H1 N1 H' (N'.unhide p hm) ∧
        PostO G W σ H N RepS Q ((mLcL t tt te (wipeE ρ vs) (items.drop i) acc hs').bind fun xs hs1 => .ok (.d (.lst xs)) hs1), ⟨items.length, hs1, N1.hide p, [], [], fun z => hr1.fresh hp (N1.liv _ z), by simp, Nat.zero_le _, hr1.hide hp trivial, .inr rfl, upd_same, rfl, ?_, q⟩, ?_⟩
    · refine ⟨fun a u h q => ?_, fun a h => ?_, fun i a _ h => h, fun a h n _ => ⟨.inl h, ?_⟩, fun i a h n q => q, fun a h => ?_, fun a h n m => ?_⟩
      · rw [upd_ne (ne_of_none h hp)]; exact h
      · rcases h.1 with z | z
        · exact .inl z
        · exact absurd z h.2
      · rintro rfl; exact n hp
      · have : a ≠ p := by rintro rfl; exact h hp
        rw [upd_ne this]; exact h
      · have : a ≠ p := by rintro rfl; exact m hp
        rw [upd_ne this]
    · rintro i m H' ⟨hs', N', acc, us, hm, rfl, hi, hr', hl', hp', ra, ex', q'⟩
      have exf : ExtE H1 N1 H' N' := Ext.rehide ex' hp
      by_cases hlt : i < items.length
      · refine .inr ⟨wk.go i hs' H' N' hr' exf hlt, fun H2 => ∃ hs2 N2 acc us, ∃ hm : some p ∉ N2.M, HRel G hs2 N2 H2 ∧ N2.L p ∧ H2 p = some (.lst us) ∧ RepL G H2 N2.L acc us ∧ ExtE H1 N1 H2 (N2.unhide p hm) ∧
          PostO G W σ H N RepS Q ((mLcL t tt te (wipeE ρ vs) (items.drop (i + 1)) acc hs2).bind fun xs hs1 => .ok (.d (.lst xs)) hs1),
          fun H2 ⟨hs2, N2, acc, us, hm, a, b, c, d, e, f⟩ => ⟨items.length - (i + 1), by omega, hs2, N2, acc, us, hm, rfl, hlt, a, b, c, d, e, f⟩, fun x H'' y => ?_⟩
        have hd : items[i]? = some items[i] := by simp [hlt]
        obtain ⟨hr2, ex2, rx⟩ := wk.yld i hs' H' N' x H'' _ hr' exf hd y
        rw [List.drop_eq_getElem_cons hlt] at q'
        simp only [mLcL] at q'
        cases et : mTg t (.d items[i]) (wipeE ρ vs) with
        | none => rw [et] at q'; exact q'.elim
        | some ρ1 =>
          simp only [et] at q'
          have hew : ERel G H'' N' (wipeE ρ vs) (L2.wipe σ vs) := (he1.ext exf).ext ex2
          refine gOf_run (G := G) t (.d items[i]) x (wipeE ρ vs) ρ1 (L2.wipe σ vs) _ rx hew et fun σ2 he2 hw => ?_
          refine ⟨?_, ρ1, hs', N', hr2, he2, ?_⟩
          · rw [hw vs hv, wipe_wipe fun i h => h]
          · -- what stays of p behind each part
            have npo : H' p ≠ none := by rw [hp']; exact fun z => nomatch z
            cases ett : tt ρ1 hs' with
            | bad => simp only [ett, Out.bind0] at q'; exact q'.elim
            | exc c ns ws hsx => simp only [ett, Out.bind0] at q'; exact q'.elim
            | ok k hs3 =>
              simp only [ett, Out.bind0] at q'
              intro v N3 H3 hr3 ex3 ev
              have ev : k = v := ev
              subst ev
              have e13 := ex2.trans ex3
              cases k with
              | false =>
                rw [if_neg Bool.false_ne_true]
                have hm3 : some p ∉ N3.M := fun z => by
                  obtain ⟨j, hj⟩ := List.getElem?_of_mem z
                  exact hm (List.mem_of_getElem? (e13.old j p hl' npo hj))
                refine ⟨hs3, N3, acc, us, hm3, hr3, e13.sub p hl' npo fun _ _ => trivial, (e13.hid p hl' hm npo).trans hp', RepL.ext e13 _ _ ra, ex'.trans (e13.unhide hm hm3 hl' npo), ?_⟩
                simpa using q'
              | true =>
                rw [if_pos rfl]
                refine ⟨ρ1, hs3, N3, hr3, he2.ext ex3, ?_⟩
                simp only [if_true] at q'
                cases ee : te ρ1 hs3 with
                | bad => simp only [ee] at q'; exact q'.elim
                | exc c ns ws hsx => simp only [ee] at q'; exact q'.elim
                | ok y hs4 =>
                  simp only [ee] at q'
                  intro w N4 H4 hr4 ex4 rw4
                  have e14 := e13.trans ex4
                  have hm4 : some p ∉ N4.M := fun z => by
                    obtain ⟨j, hj⟩ := List.getElem?_of_mem z
                    exact hm (List.mem_of_getElem? (e14.old j p hl' npo hj))
                  have hl4 : N4.L p := e14.sub p hl' npo fun _ _ => trivial
                  have hp4 : H4 p = some (.lst us) := (e14.hid p hl' hm npo).trans hp'
                  cases y with
                  | r n => exact q'.elim
                  | d d =>
                    simp only at q'
                    by_cases hz : acc.length < sizeLine
                    · rw [if_pos hz] at q'
                      have ra4 := RepL.ext e14 _ _ ra
                      refine ⟨us, hp4, by rw [← ra.length]; exact hz, hs4, N4, acc ++ [d], us ++ [w], hm4, hr4.hidW hl4 hm4 trivial, hl4, upd_same, ?_, ?_, q'⟩
                      · have eo : ExtE H4 (N4.own p hl4 hm4) (upd H4 p (.lst (us ++ [w]))) (N4.own p hl4 hm4) := Ext.ownW hl4 hm4 (hr4.mu p hl4)
                        exact (RepL.ext eo _ _ ra4).append (RepL.one (Rep.ext eo _ _ rw4))
                      · exact (ex'.trans (e14.unhide hm hm4 hl' npo)).wr hp
                    · rw [if_neg hz] at q'; exact q'.elim
      · have e : i = items.length := by omega
        subst e
        rw [List.drop_length] at q'
        refine .inl ⟨wk.stop _ hs' H' N' hr' exf (Nat.le_refl _), ?_⟩
        refine q' (.ref p) (N'.unhide p hm) H' (hr'.unhide hm) (ex1.trans ex') ?_
        exact ⟨p, us, rfl, fun z => z.2 rfl, hp', RepL.sub (fun a z => z.1) _ _ ra⟩
theorem se_lc {elt tg iter : Expr} {ifs : List Expr} {scope : Scope} {own : List (Str × Nat)} {pos : Pos} {mi : MI} {t : Tg} {tt : MT} {te : ME} (hc : X.calm = true) (hN : X.N.Nodup) (ok : BlkOk X.N X.env.scope scope own) (hv : ∀ i ∈ t.slots, i ∈ own.map (·.2))
    (hi : SI X W tg iter mi)
    (hg : ∀ (s : Shared) (H : Hp) (C : Addr) (cl : List (Str × Addr)) (fp : List Addr), PG (X.blk s H scope (compEnvC scope cl C X.env) fp) tg (gOf X.K t)) (ht : ∀ (s : Shared) (H : Hp) (C : Addr) (cl : List (Str × Addr)) (fp : List Addr), STs (X.blk s H scope (compEnvC scope cl C X.env) fp) W0 ifs tt)
    (he : ∀ (s : Shared) (H : Hp) (C : Addr) (cl : List (Str × Addr)) (fp : List Addr), SE (X.blk s H scope (compEnvC scope cl C X.env) fp) W0 elt te) (hs : ∀ x, foldedSetIterable iter X.env x = pure x := by intro _; rfl) :
    SE X W (.ListComp elt [⟨tg, iter, ifs, 0⟩] scope pos) (mLcE (own.map (·.2)) t mi tt te) :=
  pe_of (pe_lc hc hN hi ok hg ht he hs) fun _ _ _ h => lc_read hv h
theorem ss_setLc {P : Nat → Prop} {i : Nat} {y : Str} {py : Pos} {elt tg iter : Expr} {ifs : List Expr} {scope : Scope} {own : List (Str × Nat)} {pos spos : Pos} {mi : MI} {t : Tg} {tt : MT} {te : ME} (hc : X.calm = true) (hN : X.N.Nodup) (hy : X.N[i]? = some y) (hyl : X.env.scope.names.lookup y = some .local)
    (hsw : swapsWith (.ListComp elt [⟨tg, iter, ifs, 0⟩] scope pos) (some (.Name y py)) spos.line X.env = pure true) (ok : BlkOk X.N X.env.scope scope own) (hv : ∀ i ∈ t.slots, i ∈ own.map (·.2)) (hi : SI X W tg iter mi)
    (hg : ∀ (s : Shared) (H : Hp) (C : Addr) (cl : List (Str × Addr)) (fp : List Addr), PG (X.blk s H scope (compEnvC scope cl C X.env) fp) tg (gOf X.K t)) (ht : ∀ (s : Shared) (H : Hp) (C : Addr) (cl : List (Str × Addr)) (fp : List Addr), STs (X.blk s H scope (compEnvC scope cl C X.env) fp) W0 ifs tt)
    (he : ∀ (s : Shared) (H : Hp) (C : Addr) (cl : List (Str × Addr)) (fp : List Addr), SE (X.blk s H scope (compEnvC scope cl C X.env) fp) W0 elt te) (hs : ∀ x, foldedSetIterable iter X.env x = pure x := by intro _; rfl) :
    SS X W P (.Assign [.Name y py] (.ListComp elt [⟨tg, iter, ifs, 0⟩] scope pos) spos) (mSet i (mLcE (own.map (·.2)) t mi tt te)) := by
  refine ps_of (ps_setLc (tt := TR (Cx.g X) W0 RB tt) (te := TR (Cx.g X) W0 RepS te) hc hN hy hyl hsw hi ok hg ht he hs) fun D σ H h => ?_
  have h2 := TS'.two (R := RepS) h
  refine lc_read hv ?_
  obtain ⟨ρ, hs, N, hr, hE, q⟩ := h2
  refine ⟨ρ, hs, N, hr, hE, q.mono fun x H1 ⟨ρ1, hs1, N1, a, _, _, q1, q2, _, q3, q4⟩ => ?_⟩
  exact q4 _ N1 H1 q1 Ext.refl (q2.set q3)
end
end Py
end L2

set_option Elab.async false
set_option linter.all false
set_option maxRecDepth 100000
/-! Defs: their mirrors, their calls. -/
namespace L2
namespace Py
open PySem PySem.Spec PyProof.Rows

abbrev FM := List SV → Hs → Out D
/-- a def that hands back a new live thing -/
abbrev FMN := List SV → Hs → Out Cell
def PostF (G : Gd) (H : Hp) (N : Lg) (Q : VK) (E : XK) : Out D → Prop
  | .ok d hs' => ∀ v N' H', HRel G hs' N' H' → ExtE H N H' N' → Rep G H' N'.L d v → Q v H'
  | .exc c ns ws hs' => ∀ cls dd N' H', HRel G hs' N' H' → ExtE H N H' N' → XRep G H' N'.L c ns ws cls dd → E cls dd H'
  | .bad => False
def PostN (G : Gd) (H : Hp) (N : Lg) (Q : VK) (E : XK) : Out Cell → Prop
  | .ok c hs' => ∀ p N' H', HRel G (hs' ++ [c]) N' H' → ExtE H N H' N' → N'.M[hs'.length]? = some (some p) → Q (.ref p) H'
  | .exc c ns ws hs' => ∀ cls dd N' H', HRel G hs' N' H' → ExtE H N H' N' → XRep G H' N'.L c ns ws cls dd → E cls dd H'
  | .bad => False
def spOf (G : Gd) (n : Nat) (fm : FM) : Sp := fun vs H Q E => vs.length = n ∧ ∃ ds hs N, HRel G hs N H ∧ RepSL G H N ds vs ∧ PostF G H N Q E (fm ds hs)
def spOfN (G : Gd) (n : Nat) (fm : FMN) : Sp := fun vs H Q E => vs.length = n ∧ ∃ ds hs N, HRel G hs N H ∧ RepSL G H N ds vs ∧ PostN G H N Q E (fm ds hs)

def startE (n : Nat) (ds : List SV) : Env' := ds.map some ++ List.replicate (n - ds.length) none
/-- what is handed back: data as it is, an own live thing frozen -/
def finish (k : Nat) (d : SV) (hs : Hs) : Out D :=
  match d with
  | .d x => .ok x (hs.take k)
  | .r n => if n < k then .bad else match hs[n]? with
    | some (.lst xs) => .ok (.lst xs) (hs.take k)
    | some (.dct ks ws) => .ok (.dct ks ws) (hs.take k)
    | _ => .bad
def mFn (nN : Nat) (b : MS) : FM := fun ds hs => match b (startE nN ds) hs with
  | .rt d hs' => finish hs.length d hs'
  | .nx _ hs' => .ok .non (hs'.take hs.length)
  | .exc c ns ws _ hs' => .exc c ns ws (hs'.take hs.length)
  | _ => .bad
def finishN (k : Nat) (d : SV) (hs : Hs) : Out Cell :=
  match d with
  | .d _ => .bad
  | .r n => if n = k ∧ hs.length = k + 1 then match hs[n]? with
      | some c => .ok c (hs.take k)
      | none => .bad
    else .bad
def mFnN (nN : Nat) (b : MS) : FMN := fun ds hs => match b (startE nN ds) hs with
  | .rt d hs' => finishN hs.length d hs'
  | .exc c ns ws _ hs' => .exc c ns ws (hs'.take hs.length)
  | _ => .bad
section
variable {G : Gd} {H H' : Hp} {N N' : Lg} {hs hs' : Hs}
theorem ERel.init {n : Nat} {ds : List SV} {vs : List V} {Ns : List Str} (h : RepSL G H N ds vs) (hn : n = Ns.length) : ERel G H N (startE n ds) (L2.start Ns vs) := by
  subst hn
  refine ⟨by simp [startE, L2.start, h.length], fun i d q => ?_⟩
  unfold startE at q
  by_cases hi : i < ds.length
  · rw [List.getElem?_append_left (by simpa using hi), List.getElem?_map] at q
    cases e : ds[i]? with
    | none => rw [e] at q; cases q
    | some x =>
      rw [e] at q
      have q' : x = d := by simpa using q
      subst q'
      obtain ⟨v, h1, h2⟩ := h.get e
      refine ⟨v, ?_, h2⟩
      unfold L2.start
      rw [List.getElem?_append_left (by rw [List.length_map, ← h.length]; exact hi), List.getElem?_map, h1]; rfl
  · rw [List.getElem?_append_right (by simpa using hi), List.getElem?_replicate] at q
    split at q
    · cases q
    · cases q
theorem XRep.sub {L L' : Addr → Prop} (e : ∀ a, L' a → L a) {c : Str} {ns : List Str} {ws : List D} {cls : Value} {dd : Option Addr} (h : XRep G H L c ns ws cls dd) : XRep G H L' c ns ws cls dd := by
  obtain ⟨ca, h1, h2, h3⟩ := h
  refine ⟨ca, h1, h2, ?_⟩
  rcases h3 with h3 | ⟨d, fs, q1, q2, q3, q4⟩
  · exact .inl h3
  · exact .inr ⟨d, fs, q1, q2, q3, RepL.sub e _ _ q4⟩
/-- a def's end -/
theorem finish_ok {d : SV} {v : V} {Q : VK} {E : XK} {P : Nat → Prop} (hk : N.M.length = hs.length) (hr : HRel G hs' N' H') (ex : Ext (· < hs.length) H N H' N') (r : RepS G H' N' d v) (h : PostF G H N Q E (finish hs.length d hs')) : Q v H' := by
  cases d with
  | d x => exact h v (N'.take hs.length) H' (hr.take _) (ex.take hk) (Rep.sub (fun a z => z.1) _ _ r)
  | r n =>
    obtain ⟨a, rfl, hn⟩ := r
    simp only [finish] at h
    by_cases hl : n < hs.length
    · rw [if_pos hl] at h; exact h.elim
    · rw [if_neg hl] at h
      obtain ⟨c, hc, q, _⟩ := hr.get hn
      rw [hc] at h
      have nl : ¬ (N'.take hs.length).L a := fun z => hl (z.2 n hn)
      cases c with
      | lst xs =>
        obtain ⟨us, q1, q2⟩ := q
        exact h _ (N'.take hs.length) H' (hr.take _) (ex.take hk) ⟨a, us, rfl, nl, q1, RepL.sub (fun a z => z.1) _ _ q2⟩
      | dct ks ws =>
        refine h _ (N'.take hs.length) H' (hr.take _) (ex.take hk) ⟨a, rfl, nl, ?_⟩
        rcases q with ⟨kvs, q1, q2, q3⟩ | ⟨kvs, q1, q2, q3⟩
        · exact .inl ⟨kvs, q1, q2, RepL.sub (fun a z => z.1) _ _ q3⟩
        · exact .inr ⟨kvs, q1, q2, RepL.sub (fun a z => z.1) _ _ q3⟩
      | ins C ns ws => exact h.elim
      | dead => exact h.elim
end
/-- a def's promise where no repr is under way -/
structure FnG (P : Program) (w : World) (K : PySem.W.Frag) (mg : Str → Option Value) (base : Heap) (k : Nat) (f : Addr) (fd : FuncData) (ps : List Str) (sp : Sp) : Prop where
  len : ∀ vs H Q E, sp vs H Q E → vs.length = ps.length
  run : ∀ (A : Around) (outer : List Env) (s : Shared) (H : Hp) (args : Args) (us : List Value) (vs : List V) (Q : VK) (E : XK), A.guards = some [] → Room k A → Env0 P w K mg base A outer s H → BindsTo s fd args (ps.zip us) → Vals vs us →
    sp vs H Q E → codeAny (model P w) A (.call (.ref f) args) (CR (L2.CX P w) outer P w H s Q E) s
theorem FnG.mono {P : Program} {w : World} {K : PySem.W.Frag} {mg : Str → Option Value} {base : Heap} {j k : Nat} {f : Addr} {fd : FuncData} {ps : List Str} {sp : Sp} (F : FnG P w K mg base j f fd ps sp) (h : j ≤ k) : FnG P w K mg base k f fd ps sp :=
  ⟨F.len, fun A outer s H args us vs Q E hg hr => F.run A outer s H args us vs Q E hg (hr.mono h)⟩
theorem FnG.imp {P : Program} {w : World} {K : PySem.W.Frag} {mg : Str → Option Value} {base : Heap} {k : Nat} {f : Addr} {fd : FuncData} {ps : List Str} {sp sp' : Sp} (F : FnG P w K mg base k f fd ps sp) (h : ∀ vs H Q E, sp' vs H Q E → sp vs H Q E) : FnG P w K mg base k f fd ps sp' :=
  ⟨fun vs H Q E q => F.len vs H Q E (h _ _ _ _ q), fun A outer s H args us vs Q E hg hr e0 hb r q => F.run A outer s H args us vs Q E hg hr e0 hb r (h _ _ _ _ q)⟩
section
variable {P : Program} {w : World} {K : PySem.W.Frag} {mg : Str → Option Value} {base : Heap}
theorem fnG_of {x qual : Str} {st : Stmt} {f : Addr} {fd : FuncData} {Ns ps : List Str} {k : Nat} {sp : Sp} (F : Fun K x qual st f fd) (S : FnScope Ns ps (defScope st)) (len : ∀ vs H Q E, sp vs H Q E → vs.length = ps.length)
    (hbody : ∀ (cdv : Value) (A : Around) (outer : List Env) (s : Shared) (H : Hp) (vs : List V) (Q : VK) (E : XK), A.guards = some [] → Room k (A.deeper (envOfC qual (defScope st) s.heap.objs.size f cdv)) → sp vs H Q E →
      ∃ t, PSs (cxOf (L2.CX P w) P w K mg base Ns qual (defScope st) f cdv A outer s H E) (defBody st) t ∧ t { nx := fun _ H' => Q .non H', rt := Q } (L2.start Ns vs) H) : FnG P w K mg base (k + 1) f fd ps sp := by
  obtain ⟨oc, od, kV, doc, pm, an, cdv, ct, osl, rfl, lk, hcd⟩ := F.ex
  refine ⟨len, fun A outer s H args us vs Q E hg hr e0 hb r hsp => ?_⟩
  have there : ∀ b o, base.get? b = some o → s.heap.get? b = some o := fun b o e => (e0.bs b o e).1
  refine _root_.Att.call_fn (e0.mod.kin.keeps there) (e0.mod.nolimit.keeps there) lk hcd hr.depth hb ?_ (fun s1 ic => ?_) S.co S.gen S.kind
  · rw [List.all_eq_true]
    intro y hy
    rcases S.par y.1 (List.of_mem_zip (show (y.1, y.2) ∈ _ from hy)).1 with q | q <;> simp [q]
  · obtain ⟨t, ht, hq⟩ := hbody cdv A outer s H vs Q E hg (hr.deeper _) hsp
    refine wpAny_mono (ht.run [] s1 (L2.start Ns vs) H _ (inv_start S hr.hd e0 (len _ _ _ _ hsp) r ic) hq) (fun fl s' z => ?_) fun e s' z => z
    cases fl with
    | ret u => obtain ⟨v, σ', H', J, rv, q⟩ := z; exact ⟨v, H', J.os, J.bare, J.base, J.hok, rv, q⟩
    | next => obtain ⟨σ', H', J, q⟩ := z; exact ⟨.non, H', J.os, J.bare, J.base, J.hok, rfl, q⟩
    | brk => obtain ⟨_, _, _, q⟩ := z; exact q.elim
    | cont => obtain ⟨_, _, _, q⟩ := z; exact q.elim
end
section
variable {P : Program} {w : World} {K : PySem.W.Frag} {mg : Str → Option Value} {base : Heap}
/-- THE RULE: a def by its body's mirror -/
theorem fn_ok {x qual : Str} {st : Stmt} {f : Addr} {fd : FuncData} {Ns ps : List Str} {k : Nat} {b : MS} {nN : Nat} (F : Fun K x qual st f fd) (S : FnScope Ns ps (defScope st)) (hn : nN = Ns.length)
    (hb : ∀ (cdv : Value) (A : Around) (outer : List Env) (s : Shared) (H : Hp) (E : XK) (Pd : Nat → Prop), A.guards = some [] → Room k (A.deeper (envOfC qual (defScope st) s.heap.objs.size f cdv)) →
      SSs (cxOf (L2.CX P w) P w K mg base Ns qual (defScope st) f cdv A outer s H E) (fun cls d _ H => E cls d H) Pd (defBody st) b) :
    FnG P w K mg base (k + 1) f fd ps (spOf ⟨K, mg⟩ ps.length (mFn nN b)) := by
  refine fnG_of F S (fun vs H Q E h => h.1) fun cdv A outer s H vs Q E hg hr ⟨_, ds, hs, N, h1, h2, h3⟩ => ?_
  refine ⟨_, hb cdv A outer s H E (· < hs.length) hg hr, ?_⟩
  refine ⟨startE nN ds, hs, N, h1, ERel.init h2 hn, ?_⟩
  simp only [mFn] at h3
  cases e : b (startE nN ds) hs with
  | nx ρ hs' =>
    rw [e] at h3
    exact fun σ' N' H' a c _ => h3 .non (N'.take hs.length) H' (a.take _) (c.take h1.len) rfl
  | rt d hs' =>
    rw [e] at h3
    exact fun v N' H' a c r => finish_ok (P := All) h1.len a c r h3
  | exc c ns ws ρ hs' =>
    rw [e] at h3
    exact fun cls dd σ' N' H' a c _ r => h3 cls dd (N'.take hs.length) H' (a.take _) (c.take h1.len) (r.sub fun a z => z.1)
  | bk ρ hs' => rw [e] at h3; exact h3.elim
  | ct ρ hs' => rw [e] at h3; exact h3.elim
  | bad => rw [e] at h3; exact h3.elim
theorem fn_okN {x qual : Str} {st : Stmt} {f : Addr} {fd : FuncData} {Ns ps : List Str} {k : Nat} {b : MS} {nN : Nat} (F : Fun K x qual st f fd) (S : FnScope Ns ps (defScope st)) (hn : nN = Ns.length)
    (hb : ∀ (cdv : Value) (A : Around) (outer : List Env) (s : Shared) (H : Hp) (E : XK) (Pd : Nat → Prop), A.guards = some [] → Room k (A.deeper (envOfC qual (defScope st) s.heap.objs.size f cdv)) →
      SSs (cxOf (L2.CX P w) P w K mg base Ns qual (defScope st) f cdv A outer s H E) (fun cls d _ H => E cls d H) Pd (defBody st) b) :
    FnG P w K mg base (k + 1) f fd ps (spOfN ⟨K, mg⟩ ps.length (mFnN nN b)) := by
  refine fnG_of F S (fun vs H Q E h => h.1) fun cdv A outer s H vs Q E hg hr ⟨_, ds, hs, N, h1, h2, h3⟩ => ?_
  refine ⟨_, hb cdv A outer s H E (· < hs.length) hg hr, ?_⟩
  refine ⟨startE nN ds, hs, N, h1, ERel.init h2 hn, ?_⟩
  simp only [mFnN] at h3
  cases e : b (startE nN ds) hs with
  | nx ρ hs' => rw [e] at h3; exact h3.elim
  | rt d hs' =>
    rw [e] at h3
    intro v N' H' a c r
    cases d with
    | d x => exact h3.elim
    | r n =>
      obtain ⟨p, rfl, hn⟩ := r
      simp only [finishN] at h3
      by_cases hl : n = hs.length ∧ hs'.length = hs.length + 1
      · rw [if_pos hl] at h3
        obtain ⟨rfl, hl⟩ := hl
        obtain ⟨cc, hc, q, _⟩ := a.get hn
        rw [hc] at h3
        have e1 : hs' = hs'.take hs.length ++ [cc] := by
          have h2 : hs'.take (hs.length + 1) = hs' := List.take_of_length_le (by omega)
          rw [List.take_add_one, hc] at h2
          exact h2.symm
        have e2 : (hs'.take hs.length).length = hs.length := by rw [List.length_take]; omega
        have cE : ExtE H N H' N' := ⟨c.keep, c.new, fun i a _ q => c.pre i a (by have := (List.getElem?_eq_some_iff.mp q).1; have := h1.len; omega) q, fun a l q _ => c.sub a l q fun i z => by have := (List.getElem?_eq_some_iff.mp z).1; have := h1.len; omega, c.old, c.there, c.hid⟩
        exact h3 p N' H' (by rw [← e1]; exact a) cE (by rw [e2]; exact hn)
      · rw [if_neg hl] at h3; exact h3.elim
  | exc c ns ws ρ hs' =>
    rw [e] at h3
    exact fun cls dd σ' N' H' a c _ r => h3 cls dd (N'.take hs.length) H' (a.take _) (c.take h1.len) (r.sub fun a z => z.1)
  | bk ρ hs' => rw [e] at h3; exact h3.elim
  | ct ρ hs' => rw [e] at h3; exact h3.elim
  | bad => rw [e] at h3; exact h3.elim
end

/-! ### calls -/
/-- the live cells that the arguments name, each once -/
def refsOf : List SV → List Nat
  | [] => []
  | .d _ :: r => refsOf r
  | .r n :: r => if n ∈ refsOf r then refsOf r else n :: refsOf r
theorem refsOf_nodup : ∀ ds : List SV, (refsOf ds).Nodup
  | [] => List.nodup_nil
  | .d _ :: r => refsOf_nodup r
  | .r n :: r => by
    unfold refsOf
    split
    · exact refsOf_nodup r
    · exact List.nodup_cons.mpr ⟨by assumption, refsOf_nodup r⟩
def renum (is : List Nat) : SV → Option SV
  | .d x => some (.d x)
  | .r n => (is.idxOf? n).map .r
def renumL (is : List Nat) : List SV → Option (List SV)
  | [] => some []
  | d :: r => match renum is d, renumL is r with
    | some d', some r' => some (d' :: r')
    | _, _ => none
def getAll (hs : Hs) : List Nat → Option (List Cell)
  | [] => some []
  | i :: is => match hs[i]?, getAll hs is with
    | some c, some cs => some (c :: cs)
    | _, _ => none
def setAll (hs : Hs) : List Nat → List Cell → Hs
  | i :: is, c :: cs => (setAll hs is cs).set i c
  | _, _ => hs
def callM (fm : FM) (ds : List SV) (hs : Hs) : Out D :=
  match renumL (refsOf ds) ds, getAll hs (refsOf ds) with
  | some ds', some cs => match fm ds' cs with
    | .ok d cs' => if cs'.length = (refsOf ds).length then .ok d (setAll hs (refsOf ds) cs') else .bad
    | .exc c ns ws cs' => if cs'.length = (refsOf ds).length then .exc c ns ws (setAll hs (refsOf ds) cs') else .bad
    | .bad => .bad
  | _, _ => .bad
def callN (fm : FMN) (ds : List SV) (hs : Hs) : Out Cell :=
  match renumL (refsOf ds) ds, getAll hs (refsOf ds) with
  | some ds', some cs => match fm ds' cs with
    | .ok d cs' => if cs'.length = (refsOf ds).length then .ok d (setAll hs (refsOf ds) cs') else .bad
    | .exc c ns ws cs' => if cs'.length = (refsOf ds).length then .exc c ns ws (setAll hs (refsOf ds) cs') else .bad
    | .bad => .bad
  | _, _ => .bad
section
variable {G : Gd} {H H' : Hp} {N N' : Lg} {hs hs' : Hs}
theorem getAll_get : ∀ {is : List Nat} {cs : List Cell}, getAll hs is = some cs → cs.length = is.length ∧ ∀ (j i : Nat), is[j]? = some i → cs[j]? = hs[i]?
  | [], cs, h => by cases h; exact ⟨rfl, fun j i q => by simp at q⟩
  | i :: is, cs, h => by
    unfold getAll at h
    cases e1 : hs[i]? with
    | none => rw [e1] at h; cases h
    | some c =>
      cases e2 : getAll hs is with
      | none => rw [e1, e2] at h; cases h
      | some r =>
        rw [e1, e2] at h
        cases h
        obtain ⟨h1, h2⟩ := getAll_get e2
        refine ⟨by simp [h1], fun j k q => ?_⟩
        cases j with
        | zero => simp at q; subst q; rw [e1]; rfl
        | succ j => simpa using h2 j k (by simpa using q)
theorem setAll_length : ∀ (is : List Nat) (cs : List Cell), (setAll hs is cs).length = hs.length
  | [], _ => by unfold setAll; rfl
  | _ :: _, [] => by unfold setAll; rfl
  | i :: is, c :: cs => by unfold setAll; rw [List.length_set, setAll_length is cs]
theorem setAll_out {i : Nat} : ∀ {is : List Nat} {cs : List Cell}, i ∉ is → (setAll hs is cs)[i]? = hs[i]?
  | [], _, _ => by unfold setAll; rfl
  | _ :: _, [], _ => by unfold setAll; rfl
  | k :: is, c :: cs, h => by
    unfold setAll
    rw [List.getElem?_set_ne (fun e => h (by rw [e]; exact List.mem_cons_self))]
    exact setAll_out fun m => h (List.mem_cons_of_mem _ m)
theorem setAll_in : ∀ {is : List Nat} {cs : List Cell} {j i : Nat} {c : Cell}, is.Nodup → is[j]? = some i → cs[j]? = some c → i < hs.length → (setAll hs is cs)[i]? = some c
  | [], _, _, _, _, _, h, _, _ => by simp at h
  | _ :: _, [], _, _, _, _, _, h, _ => by simp at h
  | k :: is, d :: cs, 0, i, c, hn, h1, h2, hl => by
    simp at h1 h2
    subst h1 h2
    unfold setAll
    rw [List.getElem?_set_self (by rw [setAll_length]; exact hl)]
  | k :: is, d :: cs, j + 1, i, c, hn, h1, h2, hl => by
    have h1 : is[j]? = some i := by simpa using h1
    have hne : k ≠ i := by
      rintro rfl
      exact (List.nodup_cons.mp hn).1 (List.mem_of_getElem? h1)
    unfold setAll
    rw [List.getElem?_set_ne hne]
    exact setAll_in (List.nodup_cons.mp hn).2 h1 (by simpa using h2) hl
theorem sel_at {is : List Nat} {hn : is.Nodup} {j i : Nat} {a : Addr} (h : is[j]? = some i) (q : N.M[i]? = some (some a)) : (N.sel is hn).M[j]? = some (some a) := by
  show (is.map fun i => (N.M[i]?).join)[j]? = _
  rw [List.getElem?_map, h]
  show some ((N.M[i]?).join) = _
  rw [q]; rfl
theorem of_sel_at {is : List Nat} {hn : is.Nodup} {j : Nat} {a : Addr} (h : (N.sel is hn).M[j]? = some (some a)) : ∃ i, is[j]? = some i ∧ N.M[i]? = some (some a) := by
  have h : (is.map fun i => (N.M[i]?).join)[j]? = some (some a) := h
  rw [List.getElem?_map] at h
  cases q : is[j]? with
  | none => rw [q] at h; cases h
  | some i =>
    rw [q] at h
    refine ⟨i, rfl, ?_⟩
    have h : (N.M[i]?).join = some a := by simpa using h
    cases z : N.M[i]? with
    | none => rw [z] at h; cases h
    | some o => rw [z] at h; have h : o = some a := h; rw [h]
theorem HRel.sel {is : List Nat} {hn : is.Nodup} {cs : List Cell} (h : HRel G hs N H) (hc : getAll hs is = some cs) : HRel G cs (N.sel is hn) H := by
  obtain ⟨c1, c2⟩ := getAll_get hc
  refine ⟨by simp [Lg.sel, c1], fun j c a h1 h2 => ?_, h.mu⟩
  obtain ⟨i, q1, q2⟩ := of_sel_at h2
  rw [c2 j i q1] at h1
  exact h.at_ i c a h1 q2
theorem idxOf_some {is : List Nat} {n j : Nat} (h : is.idxOf? n = some j) : is[j]? = some n := by
  rw [List.idxOf?_eq_some_iff] at h
  obtain ⟨h1, h2⟩ := h
  simp [h1, h2.1]
theorem renum_rep {is : List Nat} {hn : is.Nodup} {d d' : SV} {v : V} (h : RepS G H N d v) (e : renum is d = some d') : RepS G H (N.sel is hn) d' v := by
  cases d with
  | d x => cases e; exact h
  | r n =>
    obtain ⟨a, rfl, hn⟩ := h
    simp only [renum] at e
    cases q : is.idxOf? n with
    | none => rw [q] at e; cases e
    | some j =>
      rw [q] at e
      cases e
      exact ⟨a, rfl, sel_at (idxOf_some q) hn⟩
theorem renumL_rep {is : List Nat} {hn : is.Nodup} : ∀ {ds ds' : List SV} {vs : List V}, RepSL G H N ds vs → renumL is ds = some ds' → RepSL G H (N.sel is hn) ds' vs
  | [], ds', _, h, e => by cases e; exact h
  | d :: r, ds', _, ⟨v, w, h1, h2, h3⟩, e => by
    unfold renumL at e
    cases q1 : renum is d with
    | none => rw [q1] at e; cases e
    | some d' =>
      cases q2 : renumL is r with
      | none => rw [q1, q2] at e; cases e
      | some r' =>
        rw [q1, q2] at e
        cases e
        exact ⟨v, w, h1, renum_rep h2 q1, renumL_rep h3 q2⟩
/-- back from a callee -/
theorem Ext.unsel {is : List Nat} {hn : is.Nodup} (e : ExtE H (N.sel is hn) H' N') : ExtE H N H' N := by
  refine ⟨e.keep, fun a h => .inl h, fun i a _ h => h, fun a h _ _ => h, fun i a _ _ h => h, e.there, fun a h n m => e.hid a h (fun z => n ?_) m⟩
  obtain ⟨j, hj⟩ := List.getElem?_of_mem z
  obtain ⟨i, _, q⟩ := of_sel_at hj
  exact List.mem_of_getElem? q
theorem HRel.unsel {is : List Nat} {hn : is.Nodup} {cs cs' : List Cell} {k : Nat} (h : HRel G hs N H) (e : ExtE H (N.sel is hn) H' N') (h' : HRel G cs' N' H') (hl : is.length ≤ cs'.length) (hi : ∀ i ∈ is, i < hs.length) : HRel G (setAll hs is cs') N H' := by
  have up : ∀ a, N.L a → N'.L a := fun a l => e.sub a l (h.there l) fun _ _ => trivial
  refine ⟨by rw [setAll_length]; exact h.len, fun i c a h1 h2 => ?_, fun a ha => h'.mu a (up a ha)⟩
  by_cases m : i ∈ is
  · obtain ⟨j, hj⟩ := List.getElem?_of_mem m
    have hjl : j < cs'.length := by have := (List.getElem?_eq_some_iff.mp hj).1; omega
    have e1 : cs'[j]? = some cs'[j] := by simp [hjl]
    rw [setAll_in hn hj e1 (hi i m)] at h1
    cases h1
    exact (h'.at_ j _ a e1 (e.pre j a trivial (sel_at hj h2))).sub up
  · rw [setAll_out m] at h1
    refine CRel.ext (Ext.unsel e) (e.hid a (N.liv a (List.mem_of_getElem? h2)) (fun z => m ?_) (h.there (N.liv a (List.mem_of_getElem? h2)))) (h.at_ i c a h1 h2)
    obtain ⟨j, hj⟩ := List.getElem?_of_mem z
    obtain ⟨i', q1, q2⟩ := of_sel_at hj
    rw [N.nd i i' a h2 q2]
    exact List.mem_of_getElem? q1
theorem getAll_lt : ∀ {is : List Nat} {cs : List Cell}, getAll hs is = some cs → ∀ i ∈ is, i < hs.length
  | [], _, _, i, h => by simp at h
  | k :: is, cs, h, i, hi => by
    unfold getAll at h
    cases e1 : hs[k]? with
    | none => rw [e1] at h; cases h
    | some c =>
      cases e2 : getAll hs is with
      | none => rw [e1, e2] at h; cases h
      | some r =>
        rcases List.mem_cons.mp hi with z | z
        · rw [z]; exact (List.getElem?_eq_some_iff.mp e1).1
        · exact getAll_lt e2 i z
theorem call_sp {n : Nat} {fm : FM} {ds : List SV} {vs : List V} {Q : VK} {W : WX} {σ : St} (h1 : HRel G hs N H) (h2 : RepSL G H N ds vs) (hl : vs.length = n)
    (q : PostO G W σ H N RepS Q ((callM fm ds hs).bind fun d h => .ok (.d d) h)) : spOf G n fm vs H Q (WE W σ) := by
  refine ⟨hl, ?_⟩
  simp only [callM] at q
  cases e1 : renumL (refsOf ds) ds with
  | none => rw [e1] at q; exact q.elim
  | some ds' =>
    cases e2 : getAll hs (refsOf ds) with
    | none => rw [e1, e2] at q; exact q.elim
    | some cs =>
      rw [e1, e2] at q
      refine ⟨ds', cs, N.sel (refsOf ds) (refsOf_nodup ds), h1.sel e2, renumL_rep h2 e1, ?_⟩
      cases e3 : fm ds' cs with
      | bad => simp only [e3] at q; exact q.elim
      | exc c ns ws cs' =>
        simp only [e3] at q
        by_cases hz : cs'.length = (refsOf ds).length
        · rw [if_pos hz] at q
          intro cls dd N' H' a b r
          have up : ∀ a, N.L a → N'.L a := fun a l => b.sub a l (h1.there l) fun _ _ => trivial
          exact q cls dd N H' (h1.unsel (cs := cs) (k := 0) b a (by omega) (getAll_lt e2)) (Ext.unsel b) (r.sub up)
        · rw [if_neg hz] at q; exact q.elim
      | ok d cs' =>
        simp only [e3] at q
        by_cases hz : cs'.length = (refsOf ds).length
        · rw [if_pos hz] at q
          intro v N' H' a b r
          have up : ∀ a, N.L a → N'.L a := fun a l => b.sub a l (h1.there l) fun _ _ => trivial
          exact q v N H' (h1.unsel (cs := cs) (k := 0) b a (by omega) (getAll_lt e2)) (Ext.unsel b) (Rep.sub up _ _ r)
        · rw [if_neg hz] at q; exact q.elim
end
def mCall (fm : FM) (a : MA) : ME := fun ρ hs => (a ρ hs).bind fun ds hs1 => (callM fm ds hs1).bind fun d hs2 => .ok (.d d) hs2
section
variable {X : Cx} {W : WX} {k n : Nat} {f : Addr} {fd : FuncData} {ps : List Str} {fm : FM} {x : Str} {p pos : Pos} {e : Expr} {es : List Expr} {ma : MA}
theorem runG {sp : Sp} {pins : List (Addr × Obj)} {σ : L2.St} {H : Hp} {s : Shared} {Q : VK} {us : List Value} {vs : List V} (F : FnG X.prog X.w X.K X.mg X.base k f fd ps sp) (hg : X.A.guards = some []) (hr : Room k X.A) (hb : Binds X.K fd ps []) (tk : Takes X W)
    (I : Inv X pins σ H s) (r : Vals vs us) (h : sp vs H Q (WE W σ)) : wpAny (model X.prog X.w) X.A (call (.ref f) us) (EP X pins σ Q) X.xe s := by
  have b := hb s us I.kIn (by rw [List.append_nil, ← r.length]; exact F.len _ _ _ _ h)
  rw [List.append_nil] at b
  refine wpAny_call (codeAny_mono (F.run X.A X.stack s H ⟨us, []⟩ us vs Q (WE W σ) hg hr I.env0 b r h) fun o s' q => ?_)
  match o, q with
  | .error e, q => exact passAt tk σ pins H s e s' I q
  | .ok (.ret u), q => exact I.after q
  | .ok .next, q => exact q.elim
  | .ok .brk, q => exact q.elim
  | .ok .cont, q => exact q.elim
theorem pe_callG {sp : Sp} {t : TA} (F : FnG X.prog X.w X.K X.mg X.base k f fd ps sp) (hgd : X.A.guards = some []) (hr : Room k X.A) (hg : Gl X x) (hm : X.mg x = some (.ref f)) (hk : PySem.W.keepIn X.K (.ref f) = true) (hb : Binds X.K fd ps []) (tk : Takes X W)
    (ha : PA X (e :: es) t) (hdb : (x == ("__debug__" : Str)) = false := by decide) (he : starEach (e :: es) X.env = (false, eval e X.env) :: starEach es X.env := by rfl) (hpl : (backTo pos (starEach es X.env)).any (·.1) = false := by rfl) :
    PE X (.Call (.Name x p) (e :: es) [] pos) (fun σ H Q => t σ H fun vs H1 => sp vs H1 Q (WE W σ)) :=
  ⟨fun pins s σ H Q I h => wpAny_Call_Name_kw (ld_glob I hg hm (PySem.W.callWith_K (h₀ := X.base) I.ok.mod.kin hk (thn (ha.run pos pins s σ H _ I h) fun us s1 ⟨vs, H1, I1, r, q⟩ => ⟨I1.kIn, runG F hgd hr hb tk I1 r q⟩) he hpl) hdb)⟩
/-- f(e, ..) -/
theorem se_call (F : FnG X.prog X.w X.K X.mg X.base k f fd ps (spOf (Cx.g X) n fm)) (hgd : X.A.guards = some []) (hr : Room k X.A) (hg : Gl X x) (hm : X.mg x = some (.ref f)) (hk : PySem.W.keepIn X.K (.ref f) = true) (hb : Binds X.K fd ps []) (tk : Takes X W)
    (ha : SA X W (e :: es) ma) (hl : (e :: es).length = n := by rfl) (hdb : (x == ("__debug__" : Str)) = false := by decide) (he : starEach (e :: es) X.env = (false, eval e X.env) :: starEach es X.env := by rfl) (hpl : (backTo pos (starEach es X.env)).any (·.1) = false := by rfl)
    (hal : ∀ ρ hs ds hs', ma ρ hs = .ok ds hs' → ds.length = n) :
    SE X W (.Call (.Name x p) (e :: es) [] pos) (mCall fm ma) := by
  refine pe_of (pe_callG F hgd hr hg hm hk hb tk ha hdb he hpl) fun σ H Q h => ?_
  obtain ⟨ρ, hs, N, hr, hE, q⟩ := h
  refine ⟨ρ, hs, N, hr, hE, ?_⟩
  simp only [mCall] at q
  cases em : ma ρ hs with
  | bad => rw [em] at q; exact q.elim
  | exc c ns ws hs' => rw [em] at q; exact q
  | ok ds hs1 =>
    rw [em] at q
    intro vs N1 H1 a b r
    exact call_sp a r (by rw [← r.length]; exact hal ρ hs ds hs1 em) (PostO.ext b q)
/-- f() -/
theorem se_call0 (F : FnG X.prog X.w X.K X.mg X.base k f fd ps (spOf (Cx.g X) 0 fm)) (hgd : X.A.guards = some []) (hr : Room k X.A) (hg : Gl X x) (hm : X.mg x = some (.ref f)) (hk : PySem.W.keepIn X.K (.ref f) = true) (hb : Binds X.K fd ps []) (tk : Takes X W) (hdb : (x == ("__debug__" : Str)) = false := by decide) :
    SE X W (.Call (.Name x p) [] [] pos) (mCall fm mNil) := by
  refine ⟨fun pins s σ H Q I h => ?_⟩
  refine wpAny_Call_Name_kw (ld_glob I hg hm ?_ hdb)
  obtain ⟨ρ, hs, N, hr', hE, q⟩ := h
  exact PySem.W.callWith_K0 I.kIn hk (runG (us := []) F hgd hr hb tk I .nil (call_sp (ds := []) hr' rfl rfl q))
end
theorem mCons_len {a : ME} {r : MA} {n : Nat} (h : ∀ ρ hs ds hs', r ρ hs = .ok ds hs' → ds.length = n) : ∀ ρ hs ds hs', mCons a r ρ hs = .ok ds hs' → ds.length = n + 1 := by
  intro ρ hs ds hs' e
  simp only [mCons] at e
  cases e1 : a ρ hs with
  | bad => rw [e1] at e; cases e
  | exc c ns ws h => rw [e1] at e; cases e
  | ok x hs1 =>
    rw [e1] at e
    simp only [Out.bind] at e
    cases e2 : r ρ hs1 with
    | bad => rw [e2] at e; cases e
    | exc c ns ws h => rw [e2] at e; cases e
    | ok xs hs2 =>
      rw [e2] at e
      cases e
      rw [List.length_cons, h _ _ _ _ e2]
theorem mNil_len : ∀ ρ hs ds hs', mNil ρ hs = .ok ds hs' → ds.length = 0 := by
  intro ρ hs ds hs' e
  cases e
  rfl
end Py
end L2

set_option Elab.async false
set_option linter.all false
set_option maxRecDepth 100000
/-! Operators, comparisons, subscripts, calls of built-ins. -/
namespace L2
namespace Py
open PySem PySem.Spec PyProof.Rows

/-! ### views -/
def viewL (hs : Hs) : SV → Option (List D)
  | .d (.lst xs) => some xs
  | .r n => match hs[n]? with
    | some (.lst xs) => some xs
    | _ => none
  | _ => none
section
variable {G : Gd} {H H' : Hp} {N N' : Lg} {hs hs' : Hs}
theorem viewL_of {x : SV} {v : V} {xs : List D} (h1 : HRel G hs N H) (h2 : RepS G H N x v) (h : viewL hs x = some xs) : ∃ a vs, v = .ref a ∧ H a = some (.lst vs) ∧ RepL G H N.L xs vs := by
  cases x with
  | d z =>
    have h2 : Rep G H N.L z v := h2
    cases z with
    | lst ys =>
      have h : some ys = some xs := h
      cases h
      obtain ⟨a, vs, q1, _, q2, q3⟩ := h2
      exact ⟨a, vs, q1, q2, q3⟩
    | _ => cases h
  | r n =>
    obtain ⟨a, rfl, hn⟩ := h2
    obtain ⟨c, hc, q, _⟩ := h1.get hn
    simp only [viewL, hc] at h
    cases c with
    | lst ys =>
      have h : some ys = some xs := h
      cases h
      obtain ⟨vs, q1, q2⟩ := q
      exact ⟨a, vs, rfl, q1, q2⟩
    | _ => cases h
/-- data of what a name holds, a live list as it stands -/
def dataOf (hs : Hs) : SV → Option D
  | .d x => some x
  | .r n => match hs[n]? with
    | some (.lst xs) => some (.lst xs)
    | _ => none
end

/-! ### data as the library's data -/
mutual
def toPy : D → Option PyData
  | .non => some .none
  | .bl b => some (.bool b)
  | .int i => some (.int i)
  | .str x => some (.str x)
  | .tup xs => (toPyL xs).map .tuple
  | .lst xs => (toPyL xs).map .list
  | .dct _ _ => none
  | .scr _ => none
  | .glo _ => none
  | .ty _ => none
def toPyL : List D → Option (List PyData)
  | [] => some []
  | x :: xs => match toPy x, toPyL xs with
    | some y, some ys => some (y :: ys)
    | _, _ => none
end
section
variable {G : Gd} {H : Hp} {L : Addr → Prop}
mutual
theorem dp_of : ∀ (d : D) (v : V) (p : PyData), Rep G H L d v → toPy d = some p → Dp G.K H v p
  | .non, v, p, h, e => by cases e; rw [show v = .non from h]; exact .non
  | .bl b, v, p, h, e => by cases e; rw [show v = .bl b from h]; exact .bl b
  | .int i, v, p, h, e => by cases e; rw [show v = .int i from h]; exact .int i
  | .str x, v, p, h, e => by cases e; rw [show v = .str x from h]; exact .str x
  | .tup xs, v, p, ⟨a, vs, h1, h2, h3⟩, e => by
    simp only [toPy] at e
    cases q : toPyL xs with
    | none => rw [q] at e; cases e
    | some ys => rw [q] at e; cases e; rw [h1]; exact .tup h2 (dpL_of xs vs ys h3 q)
  | .lst xs, v, p, ⟨a, vs, h1, _, h2, h3⟩, e => by
    simp only [toPy] at e
    cases q : toPyL xs with
    | none => rw [q] at e; cases e
    | some ys => rw [q] at e; cases e; rw [h1]; exact .lst (SqL.of h2) (dpL_of xs vs ys h3 q)
  | .dct _ _, _, _, _, e => by cases e
  | .scr _, _, _, _, e => by cases e
  | .glo _, _, _, _, e => by cases e
  | .ty _, _, _, _, e => by cases e
theorem dpL_of : ∀ (ds : List D) (vs : List V) (ps : List PyData), RepL G H L ds vs → toPyL ds = some ps → DpAll G.K H vs ps
  | [], vs, ps, h, e => by cases e; rw [show vs = [] from h]; exact .nil
  | x :: xs, vs, ps, ⟨v, r, h1, h2, h3⟩, e => by
    simp only [toPyL] at e
    cases q1 : toPy x with
    | none => rw [q1] at e; cases e
    | some y =>
      cases q2 : toPyL xs with
      | none => rw [q1, q2] at e; cases e
      | some ys => rw [q1, q2] at e; cases e; rw [h1]; exact .cons (dp_of x v y h2 q1) (dpL_of xs r ys h3 q2)
end
end
section
variable {G : Gd} {H : Hp} {N : Lg} {hs : Hs}
theorem dataOf_dp {x : SV} {v : V} {d : D} {p : PyData} (h1 : HRel G hs N H) (h2 : RepS G H N x v) (h : dataOf hs x = some d) (e : toPy d = some p) : Dp G.K H v p := by
  cases x with
  | d z =>
    have h : some z = some d := h
    cases h
    exact dp_of _ v p h2 e
  | r n =>
    obtain ⟨a, rfl, hn⟩ := h2
    obtain ⟨c, hc, q, _⟩ := h1.get hn
    simp only [dataOf, hc] at h
    cases c with
    | lst ys =>
      have h : some (D.lst ys) = some d := h
      cases h
      obtain ⟨vs, q1, q2⟩ := q
      simp only [toPy] at e
      cases q : toPyL ys with
      | none => rw [q] at e; cases e
      | some zs => rw [q] at e; cases e; exact .lst (SqL.of q1) (dpL_of ys vs zs q2 q)
    | _ => cases h
end
/-- may be compared -/
def fitEq (p q : PyData) : Bool := p.canLay0 && q.canLay0 && decide (min p.depth q.depth ≤ 150)
def eqF (neg : Bool) : F2 := fun hs x y => match dataOf hs x, dataOf hs y with
  | some d, some e => match toPy d, toPy e with
    | some p, some q => if fitEq p q = true then some (.bl (if neg = true then !PyData.eqv p q else PyData.eqv p q)) else none
    | _, _ => none
  | _, _ => none
theorem eqF_of {neg : Bool} {hs : Hs} {x y : SV} {d : D} (h : eqF neg hs x y = some d) : ∃ d1 e1 p q, dataOf hs x = some d1 ∧ dataOf hs y = some e1 ∧ toPy d1 = some p ∧ toPy e1 = some q ∧ fitEq p q = true ∧ d = .bl (if neg = true then !PyData.eqv p q else PyData.eqv p q) := by
  simp only [eqF] at h
  cases e1 : dataOf hs x with
  | none => rw [e1] at h; cases h
  | some d1 =>
    cases e2 : dataOf hs y with
    | none => rw [e1, e2] at h; cases h
    | some d2 =>
      rw [e1, e2] at h
      simp only at h
      cases e3 : toPy d1 with
      | none => rw [e3] at h; cases h
      | some p =>
        cases e4 : toPy d2 with
        | none => rw [e3, e4] at h; cases h
        | some q =>
          rw [e3, e4] at h
          simp only at h
          by_cases hf : fitEq p q = true
          · rw [if_pos hf] at h
            exact ⟨d1, d2, p, q, rfl, rfl, e3, e4, hf, (Option.some.inj h).symm⟩
          · rw [if_neg hf] at h; cases h
theorem fitEq_of {p q : PyData} (h : fitEq p q = true) : p.canLay0 = true ∧ q.canLay0 = true ∧ min p.depth q.depth ≤ 150 := by
  simp only [fitEq, Bool.and_eq_true, decide_eq_true_eq] at h
  exact ⟨h.1.1, h.1.2, h.2⟩
section
variable {X : Cx} {W : WX} {pos : Pos} {k : Nat}
theorem or_eq (hr : Room k X.A) : OpR X (compareOp .Eq) (r2 (Cx.g X) (eqF false)) := by
  intro pins s σ H x y v u Q I rx ry ⟨hs, N, dx, dy, d, h1, h2, h3, e, q⟩
  obtain ⟨d1, e1, p, p', a1, a2, a3, a4, a5, rfl⟩ := eqF_of e
  obtain ⟨as, r1⟩ := Dp.reads I p x v (dataOf_dp h1 h2 a1 a3) rx
  obtain ⟨bs, r2⟩ := Dp.reads I p' y u (dataOf_dp h1 h3 a2 a4) ry
  obtain ⟨f1, f2, f3⟩ := fitEq_of a5
  have := hr.un
  exact SeqAt.compareEq_reads r1 r2 f1 f2 (by omega) ⟨.bl (PyData.eqv p p'), H, I, rfl, q _ H h1 Ext.refl rfl⟩
theorem or_ne (hr : Room k X.A) : OpR X (compareOp .NotEq) (r2 (Cx.g X) (eqF true)) := by
  intro pins s σ H x y v u Q I rx ry ⟨hs, N, dx, dy, d, h1, h2, h3, e, q⟩
  obtain ⟨d1, e1, p, p', a1, a2, a3, a4, a5, rfl⟩ := eqF_of e
  obtain ⟨as, r1⟩ := Dp.reads I p x v (dataOf_dp h1 h2 a1 a3) rx
  obtain ⟨bs, r2⟩ := Dp.reads I p' y u (dataOf_dp h1 h3 a2 a4) ry
  obtain ⟨f1, f2, f3⟩ := fitEq_of a5
  have := hr.un
  exact SeqAt.compareNe_reads r1 r2 f1 f2 (by omega) ⟨.bl (!PyData.eqv p p'), H, I, rfl, q _ H h1 Ext.refl rfl⟩
/-- in, not in: a text in a text, data among the items of a list, a tuple -/
def inF (neg : Bool) : F2 := fun hs x y => match x, y with
  | .d (.str i), .d (.str j) => some (.bl (if neg = true then !(!(Builtin.Str.occurrences j i 0 j.length 1).isEmpty) else !(Builtin.Str.occurrences j i 0 j.length 1).isEmpty))
  | x, y => match dataOf hs x, dataOf hs y with
    | some d, some (.lst es) => match toPy d, toPyL es with
      | some p, some qs => if (p.canLay0 && PyData.canLayAll0 qs && decide (p.depth ≤ 100)) = true then some (.bl (if neg = true then !qs.any fun z => PyData.eqv z p else qs.any fun z => PyData.eqv z p)) else none
      | _, _ => none
    | some d, some (.tup es) => match toPy d, toPyL es with
      | some p, some qs => if (p.canLay0 && PyData.canLayAll0 qs && decide (p.depth ≤ 100)) = true then some (.bl (if neg = true then !qs.any fun z => PyData.eqv z p else qs.any fun z => PyData.eqv z p)) else none
      | _, _ => none
    | _, _ => none
theorem inF_of {neg : Bool} {hs : Hs} {x y : SV} {d : D} (h : inF neg hs x y = some d) : (∃ i j, x = .d (.str i) ∧ y = .d (.str j) ∧ d = .bl (if neg = true then !(!(Builtin.Str.occurrences j i 0 j.length 1).isEmpty) else !(Builtin.Str.occurrences j i 0 j.length 1).isEmpty)) ∨
    ∃ d1 es p qs, dataOf hs x = some d1 ∧ (dataOf hs y = some (.lst es) ∨ dataOf hs y = some (.tup es)) ∧ toPy d1 = some p ∧ toPyL es = some qs ∧ p.canLay0 = true ∧ PyData.canLayAll0 qs = true ∧ p.depth ≤ 100 ∧ d = .bl (if neg = true then !qs.any fun z => PyData.eqv z p else qs.any fun z => PyData.eqv z p) := by
  unfold inF at h
  split at h
  · exact .inl ⟨_, _, rfl, rfl, (Option.some.inj h).symm⟩
  · right
    split at h
    · rename_i d1 es e1 e2
      split at h
      · rename_i p qs e3 e4
        split at h
        · rename_i hc
          simp only [Bool.and_eq_true, decide_eq_true_eq] at hc
          exact ⟨d1, es, p, qs, e1, .inl e2, e3, e4, hc.1.1, hc.1.2, hc.2, (Option.some.inj h).symm⟩
        · cases h
      · cases h
    · rename_i d1 es e1 e2
      split at h
      · rename_i p qs e3 e4
        split at h
        · rename_i hc
          simp only [Bool.and_eq_true, decide_eq_true_eq] at hc
          exact ⟨d1, es, p, qs, e1, .inr e2, e3, e4, hc.1.1, hc.1.2, hc.2, (Option.some.inj h).symm⟩
        · cases h
      · cases h
    · cases h
theorem or_in (hr : Room k X.A) : OpR X (compareOp .In) (r2 (Cx.g X) (inF false)) := by
  intro pins s σ H x y v u Q I rx ry ⟨hs, N, dx, dy, d, h1, h2, h3, e, q⟩
  have hun := hr.un
  rcases inF_of e with ⟨i, j, rfl, rfl, rfl⟩ | ⟨d1, es, p, qs, a1, a2, a3, a4, a5, a6, a7, rfl⟩
  · exact op_in_str pins s σ H x y v u Q I rx ry ⟨i, j, h2, h3, q _ H h1 Ext.refl rfl⟩
  · obtain ⟨as, r1⟩ := Dp.reads I p x v (dataOf_dp h1 h2 a1 a3) rx
    rcases a2 with a2 | a2
    · obtain ⟨bs, r2⟩ := Dp.reads I (.list qs) y u (dataOf_dp h1 h3 a2 (by simp only [toPy, a4]; rfl)) ry
      exact SeqAt.in_list_reads r2 r1 a6 a5 (by have := Nat.min_le_right (PyData.depthAll qs) p.depth; omega) ⟨.bl (qs.any fun z => PyData.eqv z p), H, I, rfl, q _ H h1 Ext.refl rfl⟩
    · obtain ⟨bs, r2⟩ := Dp.reads I (.tuple qs) y u (dataOf_dp h1 h3 a2 (by simp only [toPy, a4]; rfl)) ry
      exact SeqAt.in_tuple_reads r2 r1 a6 a5 (by have := Nat.min_le_right (PyData.depthAll qs) p.depth; omega) ⟨.bl (qs.any fun z => PyData.eqv z p), H, I, rfl, q _ H h1 Ext.refl rfl⟩
theorem or_notIn (hr : Room k X.A) : OpR X (compareOp .NotIn) (r2 (Cx.g X) (inF true)) := by
  intro pins s σ H x y v u Q I rx ry ⟨hs, N, dx, dy, d, h1, h2, h3, e, q⟩
  have hun := hr.un
  rcases inF_of e with ⟨i, j, rfl, rfl, rfl⟩ | ⟨d1, es, p, qs, a1, a2, a3, a4, a5, a6, a7, rfl⟩
  · exact op_notin_str pins s σ H x y v u Q I rx ry ⟨i, j, h2, h3, q _ H h1 Ext.refl rfl⟩
  · obtain ⟨as, r1⟩ := Dp.reads I p x v (dataOf_dp h1 h2 a1 a3) rx
    rcases a2 with a2 | a2
    · obtain ⟨bs, r2⟩ := Dp.reads I (.list qs) y u (dataOf_dp h1 h3 a2 (by simp only [toPy, a4]; rfl)) ry
      exact SeqAt.notIn_list_reads r2 r1 a6 a5 (by have := Nat.min_le_right (PyData.depthAll qs) p.depth; omega) ⟨.bl (!qs.any fun z => PyData.eqv z p), H, I, rfl, q _ H h1 Ext.refl rfl⟩
    · obtain ⟨bs, r2⟩ := Dp.reads I (.tuple qs) y u (dataOf_dp h1 h3 a2 (by simp only [toPy, a4]; rfl)) ry
      exact SeqAt.notIn_tuple_reads r2 r1 a6 a5 (by have := Nat.min_le_right (PyData.depthAll qs) p.depth; omega) ⟨.bl (!qs.any fun z => PyData.eqv z p), H, I, rfl, q _ H h1 Ext.refl rfl⟩
def isNon : SV → Bool
  | .d .non => true
  | _ => false
/-- is None, is True -/
def isF (neg : Bool) : F2 := fun _ x y => match y with
  | .d .non => some (.bl (if neg = true then !isNon x else isNon x))
  | .d (.bl b) => match x with
    | .d (.bl a) => some (.bl (if neg = true then !decide (a = b) else decide (a = b)))
    | _ => none
  | _ => none
theorem non_iff {G : Gd} {H : Hp} {N : Lg} {x : SV} {v : V} (h : RepS G H N x v) : decide (v = .non) = isNon x := by
  cases x with
  | d z =>
    cases z with
    | non => have e : v = .non := h; subst e; rfl
    | bl b => have e : v = .bl b := h; subst e; rfl
    | int b => have e : v = .int b := h; subst e; rfl
    | str b => have e : v = .str b := h; subst e; rfl
    | tup xs => obtain ⟨a, vs, e, _⟩ := h; subst e; rfl
    | lst xs => obtain ⟨a, vs, e, _⟩ := h; subst e; rfl
    | dct xs ys => obtain ⟨a, e, _⟩ := h; subst e; rfl
    | scr xs => obtain ⟨a, vs, e, _⟩ := h; subst e; rfl
    | glo xs => obtain ⟨a, e, _⟩ := h; subst e; rfl
    | ty n => have e : v = .ty n := h; subst e; rfl
  | r n => obtain ⟨a, e, _⟩ := h; subst e; rfl
theorem or_is : OpR X (compareOp .Is) (r2 (Cx.g X) (isF false)) := by
  intro pins s σ H x y v u Q I rx ry ⟨hs, N, dx, dy, d, h1, h2, h3, e, q⟩
  unfold isF at e
  split at e
  · have hy : y = .non := h3
    subst hy
    refine op_isN pins s σ H x _ v u Q I rx ry ⟨rfl, ?_⟩
    rw [non_iff h2]
    cases e
    exact q _ H h1 Ext.refl rfl
  · rename_i b
    have hy : y = .bl b := h3
    subst hy
    split at e
    · rename_i a
      have hx : x = .bl a := h2
      subst hx
      cases e
      exact op_is_bl pins s σ H _ _ v u Q I rx ry ⟨a, b, rfl, rfl, q _ H h1 Ext.refl rfl⟩
    · cases e
  · cases e
theorem or_isNot : OpR X (compareOp .IsNot) (r2 (Cx.g X) (isF true)) := by
  intro pins s σ H x y v u Q I rx ry ⟨hs, N, dx, dy, d, h1, h2, h3, e, q⟩
  unfold isF at e
  split at e
  · have hy : y = .non := h3
    subst hy
    refine op_notN pins s σ H x _ v u Q I rx ry ⟨rfl, ?_⟩
    rw [non_iff h2]
    cases e
    exact q _ H h1 Ext.refl rfl
  · rename_i b
    have hy : y = .bl b := h3
    subst hy
    split at e
    · rename_i a
      have hx : x = .bl a := h2
      subst hx
      cases e
      exact op_isnot_bl pins s σ H _ _ v u Q I rx ry ⟨a, b, rfl, rfl, q _ H h1 Ext.refl rfl⟩
    · cases e
  · cases e
/-- order of ints, of texts -/
def ordF (f : Int → Int → Bool) (g : List Nat → List Nat → Bool) : F2 := fun _ x y => match x, y with
  | .d (.int i), .d (.int j) => some (.bl (f i j))
  | .d (.str i), .d (.str j) => some (.bl (g i.cps.toList j.cps.toList))
  | _, _ => none
abbrev ltF : F2 := ordF (fun i j => decide (i < j)) fun a b => decide (a < b)
abbrev leF : F2 := ordF (fun i j => decide (i ≤ j)) fun a b => !decide (b < a)
abbrev gtF : F2 := ordF (fun i j => decide (j < i)) fun a b => decide (b < a)
abbrev geF : F2 := ordF (fun i j => decide (j ≤ i)) fun a b => !decide (a < b)
theorem or_ord {op : CmpOp} {f : Int → Int → Bool} {g : List Nat → List Nat → Bool} (hi : OpR X (compareOp op) (rI0 fun i j => .bl (f i j))) (ht : OpR X (compareOp op) (fun x y H Q => ∃ i j, x = .str i ∧ y = .str j ∧ Q (.bl (g i.cps.toList j.cps.toList)) H)) :
    OpR X (compareOp op) (r2 (Cx.g X) (ordF f g)) := by
  intro pins s σ H x y v u Q I rx ry ⟨hs, N, dx, dy, d, h1, h2, h3, e, q⟩
  unfold ordF at e
  split at e
  · cases e
    exact hi pins s σ H x y v u Q I rx ry ⟨_, _, h2, h3, q _ H h1 Ext.refl rfl⟩
  · cases e
    exact ht pins s σ H x y v u Q I rx ry ⟨_, _, h2, h3, q _ H h1 Ext.refl rfl⟩
  · cases e
theorem or_lt : OpR X (compareOp .Lt) (r2 (Cx.g X) ltF) := or_ord op_lt op_lt_str
theorem or_le : OpR X (compareOp .LtE) (r2 (Cx.g X) leF) := or_ord op_le op_le_str
theorem or_gt : OpR X (compareOp .Gt) (r2 (Cx.g X) gtF) := or_ord op_gt op_gt_str
theorem or_ge : OpR X (compareOp .GtE) (r2 (Cx.g X) geF) := or_ord op_ge op_ge_str

/-! ### chains -/
def mChain (f g : F2) (a b c : ME) : ME := fun ρ hs => (a ρ hs).bind fun x hs1 => (b ρ hs1).bind fun y hs2 => match f hs2 x y with
  | some (.bl true) => (c ρ hs2).bind fun z hs3 => ofO hs3 (g hs3 y z)
  | some (.bl false) => .ok (.d (.bl false)) hs2
  | _ => .bad
theorem chain_read {a b c : Expr} {ma mb mc : ME} {f g : F2} {G : Gd} {σ : L2.St} {H : Hp} {Q : VK} (h : TR G W RepS (mChain f g ma mb mc) σ H Q) :
    tChain (r2 G f) (r2 G g) (TR G W RepS ma) (TR G W RepS mb) (TR G W RepS mc) σ H Q := by
  obtain ⟨ρ, hs, N, hr, he, q⟩ := TR.two (R := RepS) h
  refine ⟨ρ, hs, N, hr, he, q.mono fun x H1 ⟨ρ1, hs1, N1, dx, q1, q2, q3, q4⟩ => ?_⟩
  refine ⟨ρ1, hs1, N1, q1, q2, (PostO.bind (R := RepS) q4).mono fun y H2 ⟨hs2, N2, dy, z1, z2, z3, z4⟩ => ?_⟩
  have z5 := q3.ext z2
  have z6 := q2.ext z2
  cases e : f hs2 dx dy with
  | none => simp only [e] at z4; exact z4.elim
  | some d =>
    refine ⟨hs2, N2, dx, dy, d, z1, z5, z3, e, fun v H' w1 w2 w3 => ?_⟩
    cases d with
    | bl k =>
      refine ⟨k, w3, ?_⟩
      cases k with
      | true =>
        simp only [e] at z4
        rw [if_pos rfl]
        refine ⟨ρ1, hs2, N2, w1, z6.ext w2, (PostO.bind (R := RepS) (PostO.ext w2 z4)).mono fun z H4 ⟨hs3, N3, dz, y1, y2, y3, y4⟩ => ?_⟩
        exact r2_of (H0 := H4) (N0 := N3) y1 ((z3.ext w2).ext y2) y3 y4
      | false =>
        simp only [e] at z4
        rw [if_neg Bool.false_ne_true]
        exact z4 _ N2 H' w1 w2 rfl
    | _ => simp only [e] at z4; exact z4.elim
theorem se_chain {op op' : CmpOp} {a b c : Expr} {ma mb mc : ME} {f g : F2} (ho : OpR X (compareOp op) (r2 (Cx.g X) f)) (ho' : OpR X (compareOp op') (r2 (Cx.g X) g)) (ha : SE X W a ma) (hb : SE X W b mb) (hc : SE X W c mc)
    (hm : lastMarks [op, op'] [b, c] = false := by with_unfolding_all rfl) : SE X W (.Compare a [op, op'] [b, c] pos) (mChain f g ma mb mc) :=
  pe_of (pe_chain ho ho' ha hb hc hm) fun _ _ _ h => chain_read (a := a) (b := b) (c := c) h
theorem st_chain {op op' : CmpOp} {a b c : Expr} {ma mb mc : ME} {f g : F2} (ho : OpR X (compareOp op) (r2 (Cx.g X) f)) (ho' : OpR X (compareOp op') (r2 (Cx.g X) g)) (ha : SE X W a ma) (hb : SE X W b mb) (hc : SE X W c mc)
    (hm : lastMarks [op, op'] [b, c] = false := by with_unfolding_all rfl) : ST X W (.Compare a [op, op'] [b, c] pos) (mB (mChain f g ma mb mc)) := by
  refine pt_of (pt_chain ho ho' ha hb hc hm) fun σ H Q h => ?_
  have h2 := TR.two (R := RepS) h
  refine chain_read (a := a) (b := b) (c := c) ?_
  obtain ⟨ρ, hs, N, hr, he, q⟩ := h2
  refine ⟨ρ, hs, N, hr, he, q.mono fun x H1 ⟨ρ1, hs1, N1, a, q1, q2, q3, q4⟩ => ?_⟩
  cases e : asB a with
  | none => rw [e] at q4; exact q4.elim
  | some b => rw [e] at q4; exact ⟨b, asB_of q3 e, q4 b N1 H1 q1 Ext.refl rfl⟩

/-! ### arithmetic -/
def addF : F2 := fun hs x y => match x, y with
  | .d (.int i), .d (.int j) => some (.int (i + j))
  | .d (.str i), .d (.str j) => if i.length + j.length ≤ sizeLine then some (.str (i ++ j)) else none
  | .d (.tup xs), .d (.tup ys) => if xs.length + ys.length ≤ sizeLine then some (.tup (xs ++ ys)) else none
  | x, y => match viewL hs x, viewL hs y with
    | some xs, some ys => if xs.length + ys.length ≤ sizeLine then some (.lst (xs ++ ys)) else none
    | _, _ => none
theorem or_add : OpR X (binaryOp .Add) (r2 (Cx.g X) addF) := by
  intro pins s σ H x y v u Q I rx ry ⟨hs, N, dx, dy, d, h1, h2, h3, e, q⟩
  unfold addF at e
  split at e
  · cases e
    exact op_add pins s σ H x y v u Q I rx ry ⟨_, _, h2, h3, q _ H h1 Ext.refl rfl⟩
  · split at e
    · cases e
      exact op_add_str pins s σ H x y v u Q I rx ry ⟨_, _, h2, h3, by assumption, q _ H h1 Ext.refl rfl⟩
    · cases e
  · rename_i xs ys
    split at e
    · cases e
      obtain ⟨a, vs, rfl, a1, a2⟩ := (show Rep _ _ _ (.tup xs) _ from h2)
      obtain ⟨b, ws, rfl, b1, b2⟩ := (show Rep _ _ _ (.tup ys) _ from h3)
      refine op_catA pins s σ H _ _ v u Q I rx ry ⟨a, b, vs, ws, rfl, rfl, a1, b1, by rw [← a2.length, ← b2.length]; assumption, fun z => ?_, fun _ z => ?_, fun _ _ p hp => ?_⟩
      · subst z
        have e : xs = [] := List.eq_nil_of_length_eq_zero (by rw [a2.length]; rfl)
        subst e
        exact q _ H h1 Ext.refl ⟨b, ws, rfl, b1, b2⟩
      · subst z
        have e : ys = [] := List.eq_nil_of_length_eq_zero (by rw [b2.length]; rfl)
        subst e
        rw [List.append_nil] at q
        exact q _ H h1 Ext.refl ⟨a, vs, rfl, a1, a2⟩
      · exact q _ _ (h1.alloc hp) (Ext.alloc hp) ⟨p, _, rfl, SqT.of upd_same, RepL.ext (P := All) (Ext.alloc hp) _ _ (a2.append b2)⟩
    · cases e
  · split at e
    · rename_i xs ys e1 e2
      split at e
      · cases e
        obtain ⟨a, vs, rfl, a1, a2⟩ := viewL_of h1 h2 e1
        obtain ⟨b, ws, rfl, b1, b2⟩ := viewL_of h1 h3 e2
        refine op_cat pins s σ H _ _ v u Q I rx ry ⟨a, b, vs, ws, rfl, rfl, a1, b1, by rw [← a2.length, ← b2.length]; assumption, fun p hp => ?_⟩
        exact q _ _ (h1.alloc hp) (Ext.alloc hp) ⟨p, _, rfl, h1.fresh hp, upd_same, RepL.ext (P := All) (Ext.alloc hp) _ _ (a2.append b2)⟩
      · cases e
    · cases e
def intF (C : Int → Int → Prop) [∀ i j, Decidable (C i j)] (f : Int → Int → Int) : F2 := fun _ x y => match x, y with
  | .d (.int i), .d (.int j) => if C i j then some (.int (f i j)) else none
  | _, _ => none
theorem or_int {op : Operator} {C : Int → Int → Prop} [∀ i j, Decidable (C i j)] {f : Int → Int → Int} (h : OpR X (binaryOp op) (rI C fun i j => .int (f i j))) : OpR X (binaryOp op) (r2 (Cx.g X) (intF C f)) := by
  intro pins s σ H x y v u Q I rx ry ⟨hs, N, dx, dy, d, h1, h2, h3, e, q⟩
  unfold intF at e
  split at e
  · split at e
    · cases e
      exact h pins s σ H x y v u Q I rx ry ⟨_, _, h2, h3, by assumption, q _ H h1 Ext.refl rfl⟩
    · cases e
  · cases e
instance (i j : Int) : Decidable (CMul i j) := by unfold CMul; infer_instance
instance (i j : Int) : Decidable (CDiv i j) := by unfold CDiv; infer_instance
instance (i j : Int) : Decidable (CPow i j) := by unfold CPow; infer_instance
abbrev subF : F2 := intF (fun _ _ => True) fun i j => i - j
abbrev modF : F2 := intF (fun _ j => 0 < j) fun i j => i % j
abbrev fdivF : F2 := intF CDiv fun i j => i / j
abbrev powF : F2 := intF CPow fun i j => i ^ j.toNat
def mulF : F2 := fun hs x y => match x, y with
  | .d (.int i), .d (.int j) => if CMul i j then some (.int (i * j)) else none
  | .d (.tup xs), .d (.int j) => if xs ≠ [] ∧ 2 ≤ j ∧ j ≤ 1000 ∧ xs.length ≤ 1000 then some (.tup (List.replicate j.toNat xs).flatten) else none
  | _, _ => none
theorem or_sub : OpR X (binaryOp .Sub) (r2 (Cx.g X) subF) := or_int fun pins s σ H x y v u Q I rx ry ⟨i, j, a, b, _, q⟩ => op_sub pins s σ H x y v u Q I rx ry ⟨i, j, a, b, q⟩
theorem or_mod : OpR X (binaryOp .Mod) (r2 (Cx.g X) modF) := or_int op_mod
theorem or_fdiv : OpR X (binaryOp .FloorDiv) (r2 (Cx.g X) fdivF) := or_int op_fdiv
theorem or_pow : OpR X (binaryOp .Pow) (r2 (Cx.g X) powF) := or_int op_pow
theorem RepL.rep {G : Gd} {H : Hp} {L : Addr → Prop} {ds : List D} {vs : List V} (h : RepL G H L ds vs) : ∀ k : Nat, RepL G H L (List.replicate k ds).flatten (List.replicate k vs).flatten
  | 0 => rfl
  | k + 1 => by
    rw [List.replicate_succ, List.replicate_succ, List.flatten_cons, List.flatten_cons]
    exact h.append (h.rep k)
theorem or_mul : OpR X (binaryOp .Mult) (r2 (Cx.g X) mulF) := by
  intro pins s σ H x y v u Q I rx ry ⟨hs, N, dx, dy, d, h1, h2, h3, e, q⟩
  unfold mulF at e
  split at e
  · split at e
    · cases e
      exact op_mul pins s σ H x y v u Q I rx ry ⟨_, _, h2, h3, by assumption, q _ H h1 Ext.refl rfl⟩
    · cases e
  · rename_i xs j
    split at e
    · rename_i hc
      cases e
      obtain ⟨a, vs, rfl, a1, a2⟩ := (show Rep _ _ _ (.tup xs) _ from h2)
      have hy : y = .int j := h3
      subst hy
      refine op_repT pins s σ H _ _ v u Q I rx ry ⟨a, j, vs, rfl, rfl, a1, fun z => hc.1 ?_, hc.2.1, hc.2.2.1, by rw [← a2.length]; exact hc.2.2.2, fun p hp => ?_⟩
      · subst z
        exact List.eq_nil_of_length_eq_zero (by rw [a2.length]; rfl)
      · exact q _ _ (h1.alloc hp) (Ext.alloc hp) ⟨p, _, rfl, SqT.of upd_same, RepL.ext (P := All) (Ext.alloc hp) _ _ (a2.rep _)⟩
    · cases e
  · cases e
def negF : F1 := fun _ x => match x with
  | .d (.int i) => some (.int (-i))
  | _ => none
theorem or_neg : UnR X (unaryOp .USub) (r1 (Cx.g X) negF) := by
  intro pins s σ H x v Q I rx ⟨hs, N, dx, d, h1, h2, e, q⟩
  unfold negF at e
  split at e
  · cases e
    exact un_neg pins s σ H x v Q I rx ⟨_, h2, q _ H h1 Ext.refl rfl⟩
  · cases e
end
end Py
end L2

set_option Elab.async false
set_option linter.all false
set_option maxRecDepth 100000
/-! Built-in calls, subscripts, slices, methods of lists, iterables. -/
namespace L2
namespace Py
open PySem PySem.Spec PyProof.Rows

/-! ### built-ins by their name -/
abbrev FL := Hs → List SV → Option D
def rl (G : Gd) (f : FL) : List V → Hp → VK → Prop := fun xs H Q => ∃ hs N ds d, HRel G hs N H ∧ RepSL G H N ds xs ∧ f hs ds = some d ∧ ∀ v H', HRel G hs N H' → ExtE H N H' N → Rep G H' N.L d v → Q v H'
def mBf (f : FL) (a : MA) : ME := fun ρ hs => (a ρ hs).bind fun ds hs1 => ofO hs1 (f hs1 ds)
section
variable {X : Cx} {W : WX} {x : Str} {p pos : Pos} {e : Expr} {es : List Expr} {ma : MA} {id T : String} {f : FL}
theorem bf_read {G : Gd} {σ : L2.St} {H : Hp} {Q : VK} (h : TR G W RepS (mBf f ma) σ H Q) : tCB (rl G f) (TR G W RepSL ma) σ H Q := by
  obtain ⟨ρ, hs, N, hr, he, q⟩ := TR.two (R := RepSL) h
  refine ⟨ρ, hs, N, hr, he, q.mono fun vs H1 ⟨ρ1, hs1, N1, ds, q1, q2, q3, q4⟩ => ?_⟩
  cases e : f hs1 ds with
  | none => rw [e] at q4; exact q4.elim
  | some d => rw [e] at q4; exact ⟨hs1, N1, ds, d, q1, q3, e, fun v H' a b c => q4 v N1 H' a b c⟩
theorem se_callB (hc : CallR X (.builtin id) (rl (Cx.g X) f)) (hg : Gl X x) (hm : X.mg x = none) (hv : bootBuiltins x = some (.builtin id)) (ha : SA X W (e :: es) ma) (hn : x ≠ "__name__" := by decide) (hdb : (x == ("__debug__" : Str)) = false := by decide)
    (he : starEach (e :: es) X.env = (false, eval e X.env) :: starEach es X.env := by rfl) (hpl : (backTo pos (starEach es X.env)).any (·.1) = false := by rfl) : SE X W (.Call (.Name x p) (e :: es) [] pos) (mBf f ma) :=
  pe_of (pe_callB hc hg hm hv ha hn hdb he hpl) fun _ _ _ h => bf_read h
theorem se_callTy (hc : CallR X (.type T) (rl (Cx.g X) f)) (hg : Gl X x) (hm : X.mg x = none) (hv : bootBuiltins x = some (.type T)) (ha : SA X W (e :: es) ma) (hn : x ≠ "__name__" := by decide) (hdb : (x == ("__debug__" : Str)) = false := by decide)
    (he : starEach (e :: es) X.env = (false, eval e X.env) :: starEach es X.env := by rfl) (hpl : (backTo pos (starEach es X.env)).any (·.1) = false := by rfl) : SE X W (.Call (.Name x p) (e :: es) [] pos) (mBf f ma) :=
  pe_of (pe_callTy hc hg hm hv ha hn hdb he hpl) fun _ _ _ h => bf_read h
/-- a built-in type's name as a value -/
theorem se_bltn {n : String} {pos : Pos} (hg : Gl X x) (hm : X.mg x = none) (hv : bootBuiltins x = some (.type n)) (hn : x ≠ "__name__" := by decide) (hd : (x == ("__debug__" : Str)) = false := by decide) : SE X W (.Name x pos) (mC (.ty n)) :=
  se_c (pe_bltn (v := .ty n) hg hm hv rfl hn hd) fun _ _ => rfl
end
/-- one argument's value -/
theorem repSL1 {G : Gd} {H : Hp} {N : Lg} {d : SV} {vs : List V} (h : RepSL G H N [d] vs) : ∃ v, vs = [v] ∧ RepS G H N d v := by
  obtain ⟨v, r, h1, h2, h3⟩ := h
  have h3 : r = [] := h3
  subst h3
  exact ⟨v, h1, h2⟩
theorem repSL2 {G : Gd} {H : Hp} {N : Lg} {d e : SV} {vs : List V} (h : RepSL G H N [d, e] vs) : ∃ v w, vs = [v, w] ∧ RepS G H N d v ∧ RepS G H N e w := by
  obtain ⟨v, r, h1, h2, h3⟩ := h
  obtain ⟨w, h4, h5⟩ := repSL1 h3
  subst h4
  exact ⟨v, w, h1, h2, h5⟩
def tyName : D → Option String
  | .non => some "NoneType"
  | .bl _ => some "bool"
  | .int _ => some "int"
  | .str _ => some "str"
  | .tup _ => some "tuple"
  | .lst _ => some "list"
  | .dct _ _ => some "dict"
  | _ => none
/-- isinstance of plain types -/
def isTy (a b : String) : Option Bool :=
  if a ∈ ["NoneType", "bool", "int", "str", "tuple", "list", "dict"] ∧ b ∈ ["bool", "int", "str", "tuple", "list", "dict"] then some (a == b || (a == "bool" && b == "int")) else none
theorem isTy_kit {a b : String} {r : Bool} (h : isTy a b = some r) : kitB a b = some r := by
  unfold isTy at h
  split at h
  · rename_i hc
    have h := Option.some.inj h
    subst h
    obtain ⟨h1, h2⟩ := hc
    simp only [List.mem_cons, List.not_mem_nil, or_false] at h1 h2
    rcases h1 with rfl | rfl | rfl | rfl | rfl | rfl | rfl <;> rcases h2 with rfl | rfl | rfl | rfl | rfl | rfl <;> decide +kernel
  · cases h
def isinstF : FL := fun hs ds => match ds with
  | [x, .d (.ty T)] => match dataOf hs x with
    | some d => match tyName d with
      | some a => (isTy a T).map .bl
      | none => none
    | none => none
  | _ => none
def lenF : FL := fun hs ds => match ds with
  | [.d (.str y)] => if y.length ≤ sizeLine then some (.int y.length) else none
  | [.d (.tup xs)] => some (.int xs.length)
  | [x] => (viewL hs x).map fun xs => .int xs.length
  | _ => none
def allBl : List D → Option (List Bool)
  | [] => some []
  | .bl b :: r => (allBl r).map (b :: ·)
  | _ :: _ => none
def allF (any : Bool) : FL := fun hs ds => match ds with
  | [x] => match viewL hs x with
    | some xs => (allBl xs).map fun bs => .bl (if any = true then bs.any id else bs.all id)
    | none => none
  | _ => none
theorem allBl_of {G : Gd} {H : Hp} {L : Addr → Prop} : ∀ {xs : List D} {bs : List Bool} {vs : List V}, RepL G H L xs vs → allBl xs = some bs → vs = bs.map V.bl
  | [], bs, vs, h, e => by cases e; exact h
  | .bl b :: r, bs, vs, ⟨v, w, h1, h2, h3⟩, e => by
    simp only [allBl] at e
    cases q : allBl r with
    | none => rw [q] at e; cases e
    | some cs =>
      rw [q] at e
      have e : some (b :: cs) = some bs := e
      cases e
      rw [h1, show v = .bl b from h2, allBl_of h3 q]; rfl
  | .non :: _, _, _, _, e => by cases e
  | .int _ :: _, _, _, _, e => by cases e
  | .str _ :: _, _, _, _, e => by cases e
  | .tup _ :: _, _, _, _, e => by cases e
  | .lst _ :: _, _, _, _, e => by cases e
  | .dct _ _ :: _, _, _, _, e => by cases e
  | .scr _ :: _, _, _, _, e => by cases e
  | .glo _ :: _, _, _, _, e => by cases e
  | .ty _ :: _, _, _, _, e => by cases e
def intFn : FL := fun _ ds => match ds with
  | [.d (.int i)] => some (.int i)
  | [.d (.bl k)] => some (.int (if k then 1 else 0))
  | _ => none
def absF : FL := fun _ ds => match ds with
  | [.d (.int i)] => some (.int (if i < 0 then -i else i))
  | _ => none
def listF : FL := fun hs ds => match ds with
  | [.d (.tup xs)] => some (.lst xs)
  | [x] => (viewL hs x).map .lst
  | _ => none
def tupleF : FL := fun hs ds => match ds with
  | [.d (.tup xs)] => some (.tup xs)
  | [x] => (viewL hs x).map .tup
  | _ => none
def min2F (mx : Bool) : FL := fun _ ds => match ds with
  | [.d (.int i), .d (.int j)] => some (.int (if mx = true then (if j > i then j else i) else if j < i then j else i))
  | _ => none
/-- repr of data in a list or a tuple -/
def reprF : FL := fun hs ds => match ds with
  | [x] => match dataOf hs x with
    | some d => match d, toPy d with
      | .lst _, some p => if (p.showable && decide (p.shown.length ≤ sizeLine) && decide (p.depth ≤ 150)) = true then some (.str p.shown) else none
      | .tup _, some p => if (p.showable && decide (p.shown.length ≤ sizeLine) && decide (p.depth ≤ 150)) = true then some (.str p.shown) else none
      | _, _ => none
    | none => none
  | _ => none
section
variable {X : Cx} {k : Nat}
theorem tyX_of {G : Gd} {H : Hp} {N : Lg} {hs : Hs} {x : SV} {v : V} {d : D} {a : String} (h1 : HRel G hs N H) (h2 : RepS G H N x v) (h : dataOf hs x = some d) (e : tyName d = some a) : TyX G.K H v (.type a) := by
  cases x with
  | d z =>
    have h : some z = some d := h
    cases h
    cases d with
    | non => cases e; have q : v = .non := h2; subst q; exact .base .non
    | bl b => cases e; have q : v = .bl b := h2; subst q; exact .base (.bl b)
    | int b => cases e; have q : v = .int b := h2; subst q; exact .base (.int b)
    | str b => cases e; have q : v = .str b := h2; subst q; exact .base (.str b)
    | tup xs =>
      cases e
      obtain ⟨p, vs, q, s, _⟩ := h2
      subst q
      rcases s with (s | ⟨o, s⟩) | ⟨o, its, n, s, c, _⟩
      · exact .base (.tup s)
      · exact .fTuple s
      · exact .kTuple s c
    | lst xs => cases e; obtain ⟨p, vs, q, _, s, _⟩ := h2; subst q; exact .base (.lst s)
    | dct xs ys =>
      cases e
      obtain ⟨p, q, _, s⟩ := h2
      subst q
      rcases s with ⟨kvs, s, _⟩ | ⟨kvs, s, _⟩
      · exact .base (.dK s)
      · exact .base (.dT s)
    | scr xs => cases e
    | glo y => cases e
    | ty y => cases e
  | r n =>
    obtain ⟨p, rfl, hn⟩ := h2
    obtain ⟨c, hc, q, _⟩ := h1.get hn
    simp only [dataOf, hc] at h
    cases c with
    | lst ys =>
      have h : some (D.lst ys) = some d := h
      cases h
      cases e
      obtain ⟨vs, q1, q2⟩ := q
      exact .base (.lst q1)
    | _ => cases h
theorem cr_isinst : CallR X (.builtin "isinstance") (rl (Cx.g X) isinstF) := by
  intro pins s σ H xs us Q I r ⟨hs, N, ds, d, h1, h2, e, q⟩
  unfold isinstF at e
  split at e
  · rename_i x T
    obtain ⟨v, w, rfl, r1, r2⟩ := repSL2 h2
    have hw : w = .ty T := r2
    subst hw
    split at e
    · rename_i d1 e1
      split at e
      · rename_i a e2
        cases e3 : isTy a T with
        | none => rw [e3] at e; cases e
        | some b =>
          rw [e3] at e
          have e : some (D.bl b) = some d := e
          cases e
          exact call_isi pins s σ H _ us Q I r ⟨v, .ty T, .type a, .type T, b, rfl, .ty T, tyX_of h1 r1 e1 e2, kit_ty (isTy_kit e3), q _ H h1 Ext.refl rfl⟩
      · cases e
    · cases e
  · cases e
theorem cr_len : CallR X (.builtin "len") (rl (Cx.g X) lenF) := by
  intro pins s σ H xs us Q I r ⟨hs, N, ds, d, h1, h2, e, q⟩
  unfold lenF at e
  split at e
  · rename_i y
    obtain ⟨v, rfl, r1⟩ := repSL1 h2
    have hv : v = .str y := r1
    subst hv
    split at e
    · cases e
      exact call_len pins s σ H _ us Q I r ⟨_, y.length, rfl, ⟨by assumption, rfl⟩, q _ H h1 Ext.refl rfl⟩
    · cases e
  · rename_i ys
    obtain ⟨v, rfl, r1⟩ := repSL1 h2
    obtain ⟨a, vs, rfl, a1, a2⟩ := (show Rep _ _ _ (.tup ys) _ from r1)
    cases e
    exact call_len pins s σ H _ us Q I r ⟨_, ys.length, rfl, .inr ⟨vs, a1, a2.length⟩, q _ H h1 Ext.refl rfl⟩
  · rename_i x _ _
    obtain ⟨v, rfl, r1⟩ := repSL1 h2
    cases e1 : viewL hs x with
    | none => rw [e1] at e; cases e
    | some ys =>
      rw [e1] at e
      have e : some (D.int ys.length) = some d := e
      cases e
      obtain ⟨a, vs, rfl, a1, a2⟩ := viewL_of h1 r1 e1
      exact call_len pins s σ H _ us Q I r ⟨_, ys.length, rfl, .inl ⟨vs, SqL.of a1, a2.length⟩, q _ H h1 Ext.refl rfl⟩
  · cases e
theorem cr_all' (hc : X.calm = true) : CallR X (.builtin "all") (rl (Cx.g X) (allF false)) := by
  intro pins s σ H xs us Q I r ⟨hs, N, ds, d, h1, h2, e, q⟩
  unfold allF at e
  split at e
  · rename_i x
    obtain ⟨v, rfl, r1⟩ := repSL1 h2
    split at e
    · rename_i ys e1
      cases e2 : allBl ys with
      | none => rw [e2] at e; cases e
      | some bs =>
        rw [e2] at e
        cases e
        obtain ⟨a, vs, rfl, a1, a2⟩ := viewL_of h1 r1 e1
        have := allBl_of a2 e2
        subst this
        exact cr_all hc pins s σ H _ us Q I r ⟨a, bs, rfl, SqL.of a1, q _ H h1 Ext.refl rfl⟩
    · cases e
  · cases e
theorem cr_any' (hc : X.calm = true) : CallR X (.builtin "any") (rl (Cx.g X) (allF true)) := by
  intro pins s σ H xs us Q I r ⟨hs, N, ds, d, h1, h2, e, q⟩
  unfold allF at e
  split at e
  · rename_i x
    obtain ⟨v, rfl, r1⟩ := repSL1 h2
    split at e
    · rename_i ys e1
      cases e2 : allBl ys with
      | none => rw [e2] at e; cases e
      | some bs =>
        rw [e2] at e
        cases e
        obtain ⟨a, vs, rfl, a1, a2⟩ := viewL_of h1 r1 e1
        have := allBl_of a2 e2
        subst this
        exact cr_any hc pins s σ H _ us Q I r ⟨a, bs, rfl, SqL.of a1, q _ H h1 Ext.refl rfl⟩
    · cases e
  · cases e
theorem cr_int : CallR X (.type "int") (rl (Cx.g X) intFn) := by
  intro pins s σ H xs us Q I r ⟨hs, N, ds, d, h1, h2, e, q⟩
  unfold intFn at e
  split at e
  · rename_i i
    obtain ⟨v, rfl, r1⟩ := repSL1 h2
    have hv : v = .int i := r1
    subst hv
    cases e
    exact call_int1 pins s σ H _ us Q I r (.inl ⟨i, rfl, q _ H h1 Ext.refl rfl⟩)
  · rename_i i
    obtain ⟨v, rfl, r1⟩ := repSL1 h2
    have hv : v = .bl i := r1
    subst hv
    cases e
    exact call_int1 pins s σ H _ us Q I r (.inr ⟨i, rfl, q _ H h1 Ext.refl rfl⟩)
  · cases e
theorem cr_abs : CallR X (.builtin "abs") (rl (Cx.g X) absF) := by
  intro pins s σ H xs us Q I r ⟨hs, N, ds, d, h1, h2, e, q⟩
  unfold absF at e
  split at e
  · rename_i i
    obtain ⟨v, rfl, r1⟩ := repSL1 h2
    have hv : v = .int i := r1
    subst hv
    cases e
    exact call_abs pins s σ H _ us Q I r ⟨i, rfl, q _ H h1 Ext.refl rfl⟩
  · cases e
theorem cr_max2 (hc : X.calm = true) : CallR X (.builtin "max") (rl (Cx.g X) (min2F true)) := by
  intro pins s σ H xs us Q I r ⟨hs, N, ds, d, h1, h2, e, q⟩
  unfold min2F at e
  split at e
  · rename_i i j
    obtain ⟨v, w, rfl, r1, r2⟩ := repSL2 h2
    have hv : v = .int i := r1
    have hw : w = .int j := r2
    subst hv hw
    cases e
    exact call_max2 hc pins s σ H _ us Q I r ⟨i, j, rfl, q _ H h1 Ext.refl rfl⟩
  · cases e
theorem cr_min2 (hc : X.calm = true) : CallR X (.builtin "min") (rl (Cx.g X) (min2F false)) := by
  intro pins s σ H xs us Q I r ⟨hs, N, ds, d, h1, h2, e, q⟩
  unfold min2F at e
  split at e
  · rename_i i j
    obtain ⟨v, w, rfl, r1, r2⟩ := repSL2 h2
    have hv : v = .int i := r1
    have hw : w = .int j := r2
    subst hv hw
    cases e
    exact call_min2 hc pins s σ H _ us Q I r ⟨i, j, rfl, q _ H h1 Ext.refl rfl⟩
  · cases e
theorem cr_list : CallR X (.type "list") (rl (Cx.g X) listF) := by
  intro pins s σ H xs us Q I r ⟨hs, N, ds, d, h1, h2, e, q⟩
  unfold listF at e
  split at e
  · rename_i ys
    obtain ⟨v, rfl, r1⟩ := repSL1 h2
    obtain ⟨a, vs, rfl, a1, a2⟩ := (show Rep _ _ _ (.tup ys) _ from r1)
    cases e
    exact call_list_of pins s σ H _ us Q I r ⟨a, vs, rfl, .inr a1, fun p hp => q _ _ (h1.alloc hp) (Ext.alloc hp) ⟨p, vs, rfl, h1.fresh hp, upd_same, RepL.ext (P := All) (Ext.alloc hp) _ _ a2⟩⟩
  · rename_i x _
    obtain ⟨v, rfl, r1⟩ := repSL1 h2
    cases e1 : viewL hs x with
    | none => rw [e1] at e; cases e
    | some ys =>
      rw [e1] at e
      have e : some (D.lst ys) = some d := e
      cases e
      obtain ⟨a, vs, rfl, a1, a2⟩ := viewL_of h1 r1 e1
      exact call_list_of pins s σ H _ us Q I r ⟨a, vs, rfl, .inl (SqL.of a1), fun p hp => q _ _ (h1.alloc hp) (Ext.alloc hp) ⟨p, vs, rfl, h1.fresh hp, upd_same, RepL.ext (P := All) (Ext.alloc hp) _ _ a2⟩⟩
  · cases e
theorem cr_tuple : CallR X (.type "tuple") (rl (Cx.g X) tupleF) := by
  intro pins s σ H xs us Q I r ⟨hs, N, ds, d, h1, h2, e, q⟩
  unfold tupleF at e
  split at e
  · rename_i ys
    obtain ⟨v, rfl, r1⟩ := repSL1 h2
    obtain ⟨a, vs, rfl, a1, a2⟩ := (show Rep _ _ _ (.tup ys) _ from r1)
    cases e
    exact call_tuple_of pins s σ H _ us Q I r ⟨a, vs, rfl, .inr ⟨a1, q _ H h1 Ext.refl ⟨a, vs, rfl, a1, a2⟩⟩⟩
  · rename_i x _
    obtain ⟨v, rfl, r1⟩ := repSL1 h2
    cases e1 : viewL hs x with
    | none => rw [e1] at e; cases e
    | some ys =>
      rw [e1] at e
      have e : some (D.tup ys) = some d := e
      cases e
      obtain ⟨a, vs, rfl, a1, a2⟩ := viewL_of h1 r1 e1
      exact call_tuple_of pins s σ H _ us Q I r ⟨a, vs, rfl, .inl ⟨SqL.of a1, fun p hp => q _ _ (h1.alloc hp) (Ext.alloc hp) ⟨p, vs, rfl, SqT.of upd_same, RepL.ext (P := All) (Ext.alloc hp) _ _ a2⟩⟩⟩
  · cases e
theorem reprF_of {hs : Hs} {ds : List SV} {d : D} (h : reprF hs ds = some d) : ∃ x d1 p, ds = [x] ∧ dataOf hs x = some d1 ∧ ((∃ xs, d1 = .lst xs) ∨ ∃ xs, d1 = .tup xs) ∧ toPy d1 = some p ∧ p.showable = true ∧ p.shown.length ≤ sizeLine ∧ p.depth ≤ 150 ∧ d = .str p.shown := by
  unfold reprF at h
  split at h
  · rename_i x
    split at h
    · rename_i d1 e1
      split at h
      · rename_i xs p e2
        split at h
        · rename_i hc
          simp only [Bool.and_eq_true, decide_eq_true_eq] at hc
          exact ⟨x, _, p, rfl, e1, .inl ⟨_, rfl⟩, e2, hc.1.1, hc.1.2, hc.2, (Option.some.inj h).symm⟩
        · cases h
      · rename_i xs p e2
        split at h
        · rename_i hc
          simp only [Bool.and_eq_true, decide_eq_true_eq] at hc
          exact ⟨x, _, p, rfl, e1, .inr ⟨_, rfl⟩, e2, hc.1.1, hc.1.2, hc.2, (Option.some.inj h).symm⟩
        · cases h
      · cases h
    · cases h
  · cases h
mutual
theorem noDict : ∀ (d : D) (p : PyData), toPy d = some p → p.hasDict = false
  | .non, p, e => by cases e; rfl
  | .bl _, p, e => by cases e; rfl
  | .int _, p, e => by cases e; rfl
  | .str _, p, e => by cases e; rfl
  | .tup xs, p, e => by
    simp only [toPy] at e
    cases q : toPyL xs with
    | none => rw [q] at e; cases e
    | some ys => rw [q] at e; cases e; exact noDictL xs ys q
  | .lst xs, p, e => by
    simp only [toPy] at e
    cases q : toPyL xs with
    | none => rw [q] at e; cases e
    | some ys => rw [q] at e; cases e; exact noDictL xs ys q
  | .dct _ _, _, e => by cases e
  | .scr _, _, e => by cases e
  | .glo _, _, e => by cases e
  | .ty _, _, e => by cases e
theorem noDictL : ∀ (ds : List D) (ps : List PyData), toPyL ds = some ps → PyData.hasDictAll ps = false
  | [], ps, e => by cases e; rfl
  | x :: xs, ps, e => by
    simp only [toPyL] at e
    cases q1 : toPy x with
    | none => rw [q1] at e; cases e
    | some y =>
      cases q2 : toPyL xs with
      | none => rw [q1, q2] at e; cases e
      | some ys =>
        rw [q1, q2] at e
        cases e
        simp [PyData.hasDictAll, noDict x y q1, noDictL xs ys q2]
end
theorem cr_repr (hg : X.A.guards = some []) (hr : Room k X.A) : CallR X (.builtin "repr") (rl (Cx.g X) reprF) := by
  intro pins s σ H xs us Q I r ⟨hs, N, ds, d, h1, h2, e, q⟩
  obtain ⟨x, d1, p, rfl, a1, a2, a3, a4, a5, a6, rfl⟩ := reprF_of e
  obtain ⟨v, rfl, r1⟩ := repSL1 h2
  obtain ⟨u, rfl, r2⟩ := vals1 r
  have dp := dataOf_dp h1 r1 a1 a3
  obtain ⟨as, rd⟩ := Dp.reads I p v u dp r2
  have hu : ∃ a, u = .ref a := by
    have hp : (∃ ys, p = .list ys) ∨ ∃ ys, p = .tuple ys := by
      rcases a2 with ⟨ys, rfl⟩ | ⟨ys, rfl⟩
      · simp only [toPy] at a3
        cases q : toPyL ys with
        | none => rw [q] at a3; cases a3
        | some zs => rw [q] at a3; cases a3; exact .inl ⟨_, rfl⟩
      · simp only [toPy] at a3
        cases q : toPyL ys with
        | none => rw [q] at a3; cases a3
        | some zs => rw [q] at a3; cases a3; exact .inr ⟨_, rfl⟩
    rcases hp with ⟨ys, rfl⟩ | ⟨ys, rfl⟩
    · cases dp with | lst _ _ => exact ⟨_, r2⟩
    · cases dp with | tup _ _ => exact ⟨_, r2⟩
  obtain ⟨a, rfl⟩ := hu
  have hun := hr.un
  exact repr_of_reads' rd a4 (fun z => by rw [noDict d1 p a3] at z; cases z) hg (by omega) (fun b o z => z)
    (fun h' t tk hk => ⟨.str p.shown, H, I.kept hk, ⟨_, rfl⟩, q _ H h1 Ext.refl rfl⟩) a5
end

/-! ### subscripts -/
def ixF : F2 := fun hs x y => match x, y with
  | .d (.tup xs), .d (.int i) => atI xs i
  | .d (.str z), .d (.int i) => if z.length ≤ sizeLine then (atI z.cps.toList i).map fun c => .str ⟨#[c]⟩ else none
  | x, .d (.int i) => match viewL hs x with
    | some xs => atI xs i
    | none => none
  | _, _ => none
theorem atI_rep {G : Gd} {H : Hp} {L : Addr → Prop} {xs : List D} {vs : List V} {i : Int} {d : D} (h : RepL G H L xs vs) (e : atI xs i = some d) : ∃ v, atI vs i = some v ∧ Rep G H L d v := by
  unfold atI at e ⊢
  rw [← h.length]
  cases q : ixN xs.length i with
  | none => rw [q] at e; cases e
  | some j =>
    rw [q] at e
    exact h.get (i := j) e
section
variable {X : Cx} {W : WX} {pos p2 : Pos} {a b : Expr} {ma mb : ME}
theorem ir_ix : IxR X (r2 (Cx.g X) ixF) := by
  intro value slice pins s σ H x y v u Q I rx ry ⟨hs, N, dx, dy, d, h1, h2, h3, e, q⟩ hp
  unfold ixF at e
  split at e
  · rename_i xs i
    obtain ⟨a, vs, rfl, a1, a2⟩ := (show Rep _ _ _ (.tup xs) _ from h2)
    obtain ⟨w, e1, e2⟩ := atI_rep a2 e
    exact ix_tup value slice pins s σ H _ y v u Q I rx ry ⟨a, vs, i, w, rfl, h3, a1, e1, q _ H h1 Ext.refl e2⟩ hp
  · rename_i z i
    split at e
    · cases e1 : atI z.cps.toList i with
      | none => rw [e1] at e; cases e
      | some c =>
        rw [e1] at e
        have e : some (D.str ⟨#[c]⟩) = some d := e
        cases e
        exact ix_str value slice pins s σ H _ y v u Q I rx ry ⟨z, i, c, h2, h3, by assumption, e1, q _ H h1 Ext.refl rfl⟩ hp
    · cases e
  · rename_i i _ _
    split at e
    · rename_i xs e1
      obtain ⟨a, vs, rfl, a1, a2⟩ := viewL_of h1 h2 e1
      obtain ⟨w, e2, e3⟩ := atI_rep a2 e
      exact ix_list value slice pins s σ H _ y v u Q I rx ry ⟨a, vs, i, w, rfl, h3, SqL.of a1, e2, q _ H h1 Ext.refl e3⟩ hp
    · cases e
  · cases e
theorem se_ix (ha : SE X W a ma) (hb : SE X W b mb) (hs : PlainIx b := by exact fun _ _ => rfl) : SE X W (.Subscript a b pos) (m2 ixF ma mb) :=
  pe_of (pe_ix ir_ix ha hb hs) fun _ _ _ h => op2_read (a := a) (b := b) h

/-! ### slices -/
abbrev MO := Mx (Option Int)
def RO : Gd → Hp → Lg → Option Int → Option Int → Prop := fun _ _ _ a b => a = b
abbrev SO (X : Cx) (W : WX) (e : Option Expr) (m : MO) : Prop := PO X e (TR (Cx.g X) W RO m)
def mNo : MO := fun _ hs => .ok none hs
def mSo (a : ME) : MO := fun ρ hs => (a ρ hs).bind fun x hs1 => match x with
  | .d (.int i) => .ok (some i) hs1
  | _ => .bad
theorem so_none : SO X W none mNo := ⟨fun pins s σ H Q I ⟨ρ, hs, N, hr, he, q⟩ => po_none.run pins s σ H Q I (q none N H hr Ext.refl rfl)⟩
theorem so_some (ha : SE X W a ma) : SO X W (some a) (mSo ma) := by
  refine ⟨fun pins s σ H Q I h => (po_some ha).run pins s σ H Q I ?_⟩
  obtain ⟨ρ, hs, N, hr, he, q⟩ := TR.two (R := RepS) h
  refine ⟨ρ, hs, N, hr, he, q.mono fun x H1 ⟨ρ1, hs1, N1, d, q1, q2, q3, q4⟩ => ?_⟩
  split at q4
  · rename_i i
    exact ⟨i, q3, q4 (some i) N1 H1 q1 Ext.refl rfl⟩
  · exact q4.elim
def cutL {α : Type} (xs : List α) (lo hi : Option Int) : List α := (xs.drop (HT.sIx xs.length 0 lo)).take (HT.sIx xs.length xs.length hi - HT.sIx xs.length 0 lo)
def slF (hs : Hs) (x : SV) (lo hi : Option Int) : Option D := match x with
  | .d (.tup xs) => some (.tup (cutL xs lo hi))
  | .d (.str z) => if z.length ≤ sizeLine then some (.str (cutS z lo hi)) else none
  | .d (.scr xs) => some (.lst (cutL xs lo hi))
  | x => (viewL hs x).map fun xs => .lst (cutL xs lo hi)
def rS (G : Gd) : V → Option Int → Option Int → Hp → VK → Prop := fun x lo hi H Q => ∃ hs N dx d, HRel G hs N H ∧ RepS G H N dx x ∧ slF hs dx lo hi = some d ∧ ∀ v H', HRel G hs N H' → ExtE H N H' N → Rep G H' N.L d v → Q v H'
theorem cut_rep {G : Gd} {H : Hp} {L : Addr → Prop} {xs : List D} {vs : List V} {lo hi : Option Int} (h : RepL G H L xs vs) : RepL G H L (cutL xs lo hi) (cutV vs lo hi) := by
  unfold cutL cutV
  rw [h.length]
  exact (h.drop _).take _
theorem sr_sl : SlR X (rS (Cx.g X)) := by
  intro pins s σ H x v vl vu lo hi sl Q I rx hsl pl pu ⟨hs, N, dx, d, h1, h2, e, q⟩
  unfold slF at e
  split at e
  · rename_i xs
    obtain ⟨a, vs, rfl, a1, a2⟩ := (show Rep _ _ _ (.tup xs) _ from h2)
    cases e
    refine sl_tupA pins s σ H _ v vl vu lo hi sl Q I rx hsl pl pu ⟨a, vs, rfl, a1, fun z => ?_, fun _ p hp => q _ _ (h1.alloc hp) (Ext.alloc hp) ⟨p, _, rfl, SqT.of upd_same, RepL.ext (P := All) (Ext.alloc hp) _ _ (cut_rep a2)⟩⟩
    refine q _ H h1 Ext.refl ⟨a, vs, rfl, a1, ?_⟩
    have : cutL xs lo hi = xs := by
      unfold cutL
      rw [← a2.length] at z
      rw [z.1, z.2, List.drop_zero, Nat.sub_zero, List.take_length]
    rw [this]; exact a2
  · rename_i z
    split at e
    · cases e
      exact sl_str pins s σ H _ v vl vu lo hi sl Q I rx hsl pl pu ⟨z, h2, by assumption, q _ H h1 Ext.refl rfl⟩
    · cases e
  · rename_i xs
    obtain ⟨a, vs, rfl, a1, a2⟩ := (show Rep _ _ _ (.scr xs) _ from h2)
    cases e
    exact sl_list pins s σ H _ v vl vu lo hi sl Q I rx hsl pl pu ⟨a, vs, rfl, a1.sq, fun p hp => q _ _ (h1.alloc hp) (Ext.alloc hp) ⟨p, _, rfl, h1.fresh hp, upd_same, RepL.ext (P := All) (Ext.alloc hp) _ _ (cut_rep a2)⟩⟩
  · cases e1 : viewL hs dx with
    | none => rw [e1] at e; cases e
    | some xs =>
      rw [e1] at e
      have e : some (D.lst (cutL xs lo hi)) = some d := e
      cases e
      obtain ⟨a, vs, rfl, a1, a2⟩ := viewL_of h1 h2 e1
      exact sl_list pins s σ H _ v vl vu lo hi sl Q I rx hsl pl pu ⟨a, vs, rfl, SqL.of a1, fun p hp => q _ _ (h1.alloc hp) (Ext.alloc hp) ⟨p, _, rfl, h1.fresh hp, upd_same, RepL.ext (P := All) (Ext.alloc hp) _ _ (cut_rep a2)⟩⟩
def mSl (a : ME) (l h : MO) : ME := fun ρ hs => (a ρ hs).bind fun x hs1 => (l ρ hs1).bind fun lo hs2 => (h ρ hs2).bind fun hi hs3 => ofO hs3 (slF hs3 x lo hi)
theorem se_slice {lo hi : Option Expr} {ml mh : MO} (ha : SE X W a ma) (hl : SO X W lo ml) (hh : SO X W hi mh) : SE X W (.Subscript a (.Slice lo hi none p2) pos) (mSl ma ml mh) := by
  refine pe_of (pe_slice sr_sl ha hl hh) fun σ H Q h => ?_
  obtain ⟨ρ, hs, N, hr, he, q⟩ := TR.two (R := RepS) h
  refine ⟨ρ, hs, N, hr, he, q.mono fun x H1 ⟨ρ1, hs1, N1, d, q1, q2, q3, q4⟩ => ?_⟩
  refine ⟨ρ1, hs1, N1, q1, q2, (PostO.bind (R := RO) q4).mono fun lo' H2 ⟨hs2, N2, l', z1, z2, z3, z4⟩ => ?_⟩
  have z3 : l' = lo' := z3
  subst z3
  refine ⟨ρ1, hs2, N2, z1, q2.ext z2, (PostO.bind (R := RO) z4).mono fun hi' H3 ⟨hs3, N3, h', y1, y2, y3, y4⟩ => ?_⟩
  have y3 : h' = hi' := y3
  subst y3
  cases e : slF hs3 d l' h' with
  | none => simp only [e] at y4; exact y4.elim
  | some r => simp only [e] at y4; exact ⟨hs3, N3, d, r, y1, (q3.ext z2).ext y2, e, fun v H' a b c => y4 v N3 H' a b c⟩

/-! ### methods of live lists -/
abbrev FMt := Hs → SV → List SV → Option (D × Hs)
def mMt (f : FMt) (o : ME) (a : MA) : ME := fun ρ hs => (o ρ hs).bind fun x hs1 => (a ρ hs1).bind fun ds hs2 => match f hs2 x ds with
  | some (d, hs3) => .ok (.d d) hs3
  | none => .bad
def rM (G : Gd) (f : FMt) : V → List V → Hp → VK → Prop := fun x vs H Q => ∃ hs N dx ds d hs', HRel G hs N H ∧ RepS G H N dx x ∧ RepSL G H N ds vs ∧ f hs dx ds = some (d, hs') ∧ ∀ v H', HRel G hs' N H' → ExtE H N H' N → Rep G H' N.L d v → Q v H'
def appendF : FMt := fun hs x ds => match x, ds with
  | .r n, [.d d] => match hs[n]? with
    | some (.lst xs) => if xs.length < sizeLine then some (.non, hs.set n (.lst (xs ++ [d]))) else none
    | _ => none
  | _, _ => none
def extendF : FMt := fun hs x ds => match x, ds with
  | .r n, [y] => match hs[n]?, viewL hs y with
    | some (.lst xs), some ys => if xs.length + ys.length ≤ sizeLine then some (.non, hs.set n (.lst (xs ++ ys))) else none
    | _, _ => none
  | _, _ => none
def popF : FMt := fun hs x ds => match x, ds with
  | .r n, [] => match hs[n]? with
    | some (.lst xs) => match xs[xs.length - 1]? with
      | some d => some (d, hs.set n (.lst xs.dropLast))
      | none => none
    | _ => none
  | _, _ => none
def popAtF : FMt := fun hs x ds => match x, ds with
  | .r n, [.d (.int i)] => match hs[n]? with
    | some (.lst xs) => if -(2 ^ 63) ≤ i ∧ i < 2 ^ 63 then match seqIndex? i xs.length with
        | some k => match xs[k]? with
          | some d => some (d, hs.set n (.lst (xs.eraseIdx k)))
          | none => none
        | none => none
      else none
    | _ => none
  | _, _ => none
theorem mm_append : MtM X "list.append" (rM (Cx.g X) appendF) := by
  intro pins s σ H x xs v us Q I rx rxs ⟨hs, N, dx, ds, d, hs', h1, h2, h3, e, q⟩
  unfold appendF at e
  split at e
  · rename_i n d0
    split at e
    · rename_i ys e1
      split at e
      · cases e
        obtain ⟨a, rfl, hn⟩ := h2
        obtain ⟨w, rfl, r1⟩ := repSL1 h3
        obtain ⟨c, hc, qc, _⟩ := h1.get hn
        rw [e1] at hc; cases hc
        obtain ⟨vs, q1, q2⟩ := qc
        have r1 : Rep _ H N.L d0 w := r1
        have ew := Ext.write (P := All) (o := .lst (vs ++ [w])) (List.mem_of_getElem? hn) (h1.mu a (N.liv a (List.mem_of_getElem? hn)))
        obtain ⟨hr', ex'⟩ := h1.write (o := .lst (vs ++ [w])) (c := .lst (ys ++ [d0])) hn trivial ⟨_, upd_same, (RepL.ext ew _ _ q2).append (RepL.one (Rep.ext ew _ _ r1))⟩
        exact mt_append pins s σ H _ _ v us Q I rx rxs ⟨a, vs, w, rfl, rfl, q1, by rw [← q2.length]; assumption, q _ _ hr' ex' rfl⟩
      · cases e
    · cases e
  · cases e
theorem mm_extend : MtM X "list.extend" (rM (Cx.g X) extendF) := by
  intro pins s σ H x xs v us Q I rx rxs ⟨hs, N, dx, ds, d, hs', h1, h2, h3, e, q⟩
  unfold extendF at e
  split at e
  · rename_i n y
    split at e
    · rename_i ys zs e1 e2
      split at e
      · cases e
        obtain ⟨a, rfl, hn⟩ := h2
        obtain ⟨w, rfl, r1⟩ := repSL1 h3
        obtain ⟨c, hc, qc, _⟩ := h1.get hn
        rw [e1] at hc; cases hc
        obtain ⟨vs, q1, q2⟩ := qc
        obtain ⟨b, ws, rfl, b1, b2⟩ := viewL_of h1 r1 e2
        have ew := Ext.write (P := All) (o := .lst (vs ++ ws)) (List.mem_of_getElem? hn) (h1.mu a (N.liv a (List.mem_of_getElem? hn)))
        obtain ⟨hr', ex'⟩ := h1.write (o := .lst (vs ++ ws)) (c := .lst (ys ++ zs)) hn trivial ⟨_, upd_same, (RepL.ext ew _ _ q2).append (RepL.ext ew _ _ b2)⟩
        exact mt_extend pins s σ H _ _ v us Q I rx rxs ⟨a, b, vs, ws, rfl, rfl, q1, b1, by rw [← q2.length, ← b2.length]; assumption, q _ _ hr' ex' rfl⟩
      · cases e
    · cases e
  · cases e
theorem mm_pop : MtM X "list.pop" (rM (Cx.g X) popF) := by
  intro pins s σ H x xs v us Q I rx rxs ⟨hs, N, dx, ds, d, hs', h1, h2, h3, e, q⟩
  unfold popF at e
  split at e
  · rename_i n
    split at e
    · rename_i ys e1
      split at e
      · rename_i d0 e2
        cases e
        obtain ⟨a, rfl, hn⟩ := h2
        have h3 : xs = [] := h3
        subst h3
        obtain ⟨c, hc, qc, _⟩ := h1.get hn
        rw [e1] at hc; cases hc
        obtain ⟨vs, q1, q2⟩ := qc
        obtain ⟨w, w1, w2⟩ := q2.get e2
        rw [q2.length] at w1
        have ew := Ext.write (P := All) (o := .lst vs.dropLast) (List.mem_of_getElem? hn) (h1.mu a (N.liv a (List.mem_of_getElem? hn)))
        obtain ⟨hr', ex'⟩ := h1.write (o := .lst vs.dropLast) (c := .lst ys.dropLast) hn trivial ⟨_, upd_same, RepL.ext ew _ _ q2.dropLast⟩
        exact mt_pop pins s σ H _ _ v us Q I rx rxs ⟨a, vs, w, rfl, rfl, q1, w1, q _ _ hr' ex' (Rep.ext ew _ _ w2)⟩
      · cases e
    · cases e
  · cases e
theorem mm_popAt : MtM X "list.pop" (rM (Cx.g X) popAtF) := by
  intro pins s σ H x xs v us Q I rx rxs ⟨hs, N, dx, ds, d, hs', h1, h2, h3, e, q⟩
  unfold popAtF at e
  split at e
  · rename_i n i
    split at e
    · rename_i ys e1
      split at e
      · rename_i hb
        split at e
        · rename_i k e3
          split at e
          · rename_i d0 e2
            cases e
            obtain ⟨a, rfl, hn⟩ := h2
            obtain ⟨wi, rfl, r1⟩ := repSL1 h3
            have r1 : wi = .int i := r1
            subst r1
            obtain ⟨c, hc, qc, _⟩ := h1.get hn
            rw [e1] at hc; cases hc
            obtain ⟨vs, q1, q2⟩ := qc
            obtain ⟨w, w1, w2⟩ := q2.get e2
            have ew := Ext.write (P := All) (o := .lst (vs.eraseIdx k)) (List.mem_of_getElem? hn) (h1.mu a (N.liv a (List.mem_of_getElem? hn)))
            obtain ⟨hr', ex'⟩ := h1.write (o := .lst (vs.eraseIdx k)) (c := .lst (ys.eraseIdx k)) hn trivial ⟨_, upd_same, RepL.ext ew _ _ (q2.eraseIdx k)⟩
            exact mt_popAt pins s σ H _ _ v us Q I rx rxs ⟨a, vs, i, k, w, rfl, rfl, q1, hb.1, hb.2, by rw [← q2.length]; exact e3, w1, q _ _ hr' ex' (Rep.ext ew _ _ w2)⟩
          · cases e
        · cases e
      · cases e
    · cases e
  · cases e
end
end Py
end L2

set_option Elab.async false
set_option linter.all false
set_option maxRecDepth 100000
/-! Methods called, items stored, iterables; new live things handed back. -/
namespace L2
namespace Py
open PySem PySem.Spec PyProof.Rows RZ

def isL (hs : Hs) : SV → Bool
  | .r n => match hs[n]? with
    | some (.lst _) => true
    | _ => false
  | _ => false
def mMtL (f : FMt) (o : ME) (a : MA) : ME := fun ρ hs => (o ρ hs).bind fun x hs1 => if isL hs1 x = true then (a ρ hs1).bind fun ds hs2 => match f hs2 x ds with
    | some (d, hs3) => .ok (.d d) hs3
    | none => .bad
  else .bad
section
variable {X : Cx} {W : WX} {P : Nat → Prop} {o e : Expr} {es : List Expr} {mo me : ME} {ma : MA} {name : Str} {apos cpos pos : Pos} {id : String} {f : FMt}
theorem isL_ty {G : Gd} {H : Hp} {N : Lg} {hs : Hs} {x : SV} {v : V} (h1 : HRel G hs N H) (h2 : RepS G H N x v) (h : isL hs x = true) : tyV G.K "list" v H := by
  cases x with
  | d z => cases h
  | r n =>
    obtain ⟨a, rfl, hn⟩ := h2
    obtain ⟨c, hc, q, _⟩ := h1.get hn
    simp only [isL, hc] at h
    cases c with
    | lst ys => obtain ⟨vs, q1, _⟩ := q; exact .inl ⟨rfl, vs, SqL.of q1⟩
    | dct _ _ => cases h
    | ins _ _ _ => cases h
    | dead => cases h
theorem mt_fin {G : Gd} {hs : Hs} {N : Lg} {H : Hp} {dx : SV} {x : V} {ds : List SV} {vs : List V} {σ : L2.St} {Q : VK} (h1 : HRel G hs N H) (h2 : RepS G H N dx x) (h3 : RepSL G H N ds vs)
    (q : PostO G W σ H N RepS Q (match f hs dx ds with | some (d, hs3) => .ok (.d d) hs3 | none => .bad)) : rM G f x vs H Q := by
  cases e : f hs dx ds with
  | none => rw [e] at q; exact q.elim
  | some r =>
    obtain ⟨d, hs3⟩ := r
    rw [e] at q
    exact ⟨hs, N, dx, ds, d, hs3, h1, h2, h3, e, fun v H' a b c => q v N H' a b c⟩
theorem se_bmL (slot : Slot "list" name id) (hty : typeOf (.builtin id) = pure (.type "method_descriptor")) (hm : MtM X id (rM (Cx.g X) f)) (ho : SE X W o mo) (ha : SA X W (e :: es) ma)
    (hbase : attributeBase o name X.env (eval o X.env) = eval o X.env := by rfl)
    (hfew : ((backTo cpos (starEach (e :: es) X.env)).all (fun x => !x.1) && (backToKw cpos (keywordEach [] X.env)).all (fun x => x.1.isSome)
      && decide ((e :: es).length + ([] : List Keyword).length + (if ([] : List Keyword).isEmpty then 0 else 1) < 30)) = true := by rfl)
    (hline : (apos.endLine == cpos.line) = true := by rfl) (hs : starEach (e :: es) X.env = (false, eval e X.env) :: starEach es X.env := by rfl) (hplain : (backTo cpos (starEach es X.env)).any (·.1) = false := by rfl) :
    SE X W (.Call (.Attribute o name apos) (e :: es) [] cpos) (mMtL f mo ma) := by
  refine pe_of (pe_bm PySem.F.plainAttrs_list slot hty hm ho ha hbase hfew hline hs hplain) fun σ H Q h => ?_
  obtain ⟨ρ, hs, N, hr, he, q⟩ := TR.two (R := RepS) h
  refine ⟨ρ, hs, N, hr, he, q.mono fun x H1 ⟨ρ1, hs1, N1, d, q1, q2, q3, q4⟩ => ?_⟩
  by_cases hL : isL hs1 d = true
  · simp only [if_pos hL] at q4
    refine ⟨isL_ty q1 q3 hL, ρ1, hs1, N1, q1, q2, (PostO.bind (R := RepSL) q4).mono fun vs H2 ⟨hs2, N2, ds, z1, z2, z3, z4⟩ => ?_⟩
    exact mt_fin z1 (q3.ext z2) z3 z4
  · simp only [if_neg hL] at q4; exact q4.elim
theorem se_bmL0 (slot : Slot "list" name id) (hty : typeOf (.builtin id) = pure (.type "method_descriptor")) (hm : MtM X id (rM (Cx.g X) f)) (ho : SE X W o mo)
    (hbase : attributeBase o name X.env (eval o X.env) = eval o X.env := by rfl) (hline : (apos.endLine == cpos.line) = true := by rfl) : SE X W (.Call (.Attribute o name apos) [] [] cpos) (mMtL f mo mNil) := by
  refine pe_of (pe_bm0 PySem.F.plainAttrs_list slot hty hm ho hbase hline) fun σ H Q h => ?_
  obtain ⟨ρ, hs, N, hr, he, q⟩ := TR.two (R := RepS) h
  refine ⟨ρ, hs, N, hr, he, q.mono fun x H1 ⟨ρ1, hs1, N1, d, q1, q2, q3, q4⟩ => ?_⟩
  by_cases hL : isL hs1 d = true
  · simp only [if_pos hL] at q4
    exact ⟨isL_ty q1 q3 hL, mt_fin (ds := []) q1 q3 rfl q4⟩
  · simp only [if_neg hL] at q4; exact q4.elim

/-! ### o[i] = e, o[i] op= e of a live list -/
def setF (hs : Hs) (o i : SV) (d : SV) : Option Hs := match o, i, d with
  | .r n, .d (.int k), .d x => match hs[n]? with
    | some (.lst xs) => match ixN xs.length k with
      | some j => some (hs.set n (.lst (xs.set j x)))
      | none => none
    | _ => none
  | _, _, _ => none
theorem setF_of {G : Gd} {hs hs' : Hs} {N : Lg} {H : Hp} {o i d : SV} {ov iv v : V} {Q : Hp → Prop} (h1 : HRel G hs N H) (ro : RepS G H N o ov) (ri : RepS G H N i iv) (rd : RepS G H N d v) (e : setF hs o i d = some hs')
    (q : ∀ H', HRel G hs' N H' → ExtE H N H' N → Q H') : rSetL ov iv v H Q := by
  unfold setF at e
  split at e
  · rename_i n k x
    split at e
    · rename_i xs e1
      split at e
      · rename_i j e2
        cases e
        obtain ⟨a, rfl, hn⟩ := ro
        have ri : iv = .int k := ri
        subst ri
        obtain ⟨c, hc, qc, _⟩ := h1.get hn
        rw [e1] at hc; cases hc
        obtain ⟨vs, q1, q2⟩ := qc
        have rd : Rep G H N.L x v := rd
        have ew := Ext.write (P := All) (o := .lst (vs.set j v)) (List.mem_of_getElem? hn) (h1.mu a (N.liv a (List.mem_of_getElem? hn)))
        obtain ⟨hr', ex'⟩ := h1.write (o := .lst (vs.set j v)) (c := .lst (xs.set j x)) hn trivial ⟨_, upd_same, RepL.set (Rep.ext ew _ _ rd) j (RepL.ext ew _ _ q2)⟩
        exact ⟨a, vs, k, j, rfl, rfl, q1, by rw [← q2.length]; exact e2, q _ hr' ex'⟩
      · cases e
    · cases e
  · cases e
def mSetI (a o i : ME) : MS := fun ρ hs => (a ρ hs).bindS ρ fun d hs1 => (o ρ hs1).bindS ρ fun ov hs2 => (i ρ hs2).bindS ρ fun iv hs3 => match setF hs3 ov iv d with
  | some hs4 => .nx ρ hs4
  | none => .bad
variable {i : Expr} {mi : ME}
theorem ss_setI {tpos : Pos} (he : SE X W e me) (ho : SE X W o mo) (hi : SE X W i mi)
    (hs : swapsWithSole [.Subscript o i tpos] e pos.line X.env = pure false := by rfl) (hw : swappedStores [.Subscript o i tpos] e X.env = pure none := by rfl)
    (h1 : (assignEach [.Subscript o i tpos] X.env).map (·.2) = [assign (.Subscript o i tpos) X.env] := by rfl)
    (hA : ∀ v, assign (.Subscript o i tpos) X.env v = (do
      let ov ← holding [v] (eval o X.env)
      let iv ← holding [v, ov] (eval i X.env)
      standAt tpos
      holding [v, ov, iv] (setItem ov iv v)
      release [v, ov, iv] []) := by intro _; rfl) : SS X W P (.Assign [.Subscript o i tpos] e pos) (mSetI me mo mi) := by
  refine ps_of (ps_asg he (pg_sub ho hi set_list hA) hs hw h1) fun D σ H h => ?_
  obtain ⟨ρ, hs, N, hr, hE, q⟩ := TS'.two (R := RepS) h
  refine ⟨ρ, hs, N, hr, hE, q.mono fun x H1 ⟨ρ1, hs1, N1, d, _, _, q1, q2, _, q3, q4⟩ => ?_⟩
  refine ⟨ρ1, hs1, N1, q1, q2, (PostO.bindS (R := RepS) q2 q4).mono fun ov H2 ⟨hs2, N2, od, z1, z2, z3, z4⟩ => ?_⟩
  refine ⟨ρ1, hs2, N2, z1, q2.ext z2, (PostO.bindS (R := RepS) (q2.ext z2) z4).mono fun iv H3 ⟨hs3, N3, id', y1, y2, y3, y4⟩ => ?_⟩
  cases ef : setF hs3 od id' d with
  | none => simp only [ef] at y4; exact y4.elim
  | some hs4 =>
    simp only [ef] at y4
    exact setF_of y1 (z3.ext y2) y3 ((q3.ext z2).ext y2) ef fun H' a b => y4 σ N3 H' a b.toP (((q2.ext z2).ext y2).ext b)
/-- xs[i] by values -/
theorem pget_list : PGet X (rIxL X.K) := by
  intro pins s σ H x y v u Q I rx ry ⟨p, xs, i, z, ex, ey, hq, he, q⟩
  subst ex ey
  cases rx
  obtain ⟨t, rfl⟩ := ry
  obtain ⟨its, r, pl, hz⟩ := I.list hq
  obtain ⟨j, h1, h2, h3, h4, h5⟩ := atI_get he
  obtain ⟨w, ew, rw'⟩ := r.get h2
  have hl := r.length
  have hn := line63
  have fin : EP X pins σ Q w s := ⟨z, H, I, rw', q⟩
  by_cases h0 : 0 ≤ i
  · have hj : i.toNat = j := Option.some.inj ((seqIndex_of h0 h5).symm.trans h1)
    exact wpAny_getItem_list pl.isList h0 (by omega) (by rw [hj]; simpa using ew) fin
  · have hj : (i + (its.toArray.size : Int)).toNat = j := by
      have z := (seqIndex_neg (by omega) h4).symm.trans h1
      rw [List.size_toArray, ← hl]
      exact Option.some.inj z
    exact wpAny_getItem_list_neg pl.isList (by omega) (by rw [List.size_toArray] <;> omega) (by omega) (by rw [hj]; simpa using ew) fin
/-- in-place operators on ints -/
def ipF (f : Int → Int → Int) (x y : D) : Option D := match x, y with
  | .int i, .int j => some (.int (f i j))
  | _, _ => none
theorem ipF_of {f : Int → Int → Int} {x y z : D} (h : ipF f x y = some z) : ∃ i j, x = .int i ∧ y = .int j ∧ z = .int (f i j) := by
  unfold ipF at h
  split at h
  · exact ⟨_, _, rfl, rfl, (Option.some.inj h).symm⟩
  · cases h
def mAugI (f : Int → Int → Int) (o i a : ME) : MS := fun ρ hs => (o ρ hs).bindS ρ fun ov hs1 => (i ρ hs1).bindS ρ fun iv hs2 => match viewL hs2 ov with
  | some xs => match iv with
   | .d (.int k) => match atI xs k with
    | some old => (a ρ hs2).bindS ρ fun d hs3 => match d with
      | .d y => match ipF f old y with
        | some z => match setF hs3 ov iv (.d z) with
          | some hs4 => .nx ρ hs4
          | none => .bad
        | none => .bad
      | .r _ => .bad
    | none => .bad
   | _ => .bad
  | none => .bad
theorem ss_augI {op : Operator} {f : Int → Int → Int} {tpos : Pos} (hop : PIp X op (ipI f)) (ho : SE X W o mo) (hi : SE X W i mi) (he : SE X W e me)
    (hA : ∀ ov iv new, augStore i ov iv new = (do holding [new, ov, iv] (setItem ov iv new); release [new, ov, iv] []; pure .next) := by intros; rfl) : SS X W P (.AugAssign (.Subscript o i tpos) op e pos) (mAugI f mo mi me) := by
  refine ps_of (ps_augS ho hi pget_list he hop set_list hA) fun D σ H h => ?_
  obtain ⟨ρ, hs, N, hr, hE, q⟩ := TS'.two (R := RepS) h
  refine ⟨ρ, hs, N, hr, hE, q.mono fun ov H1 ⟨ρ1, hs1, N1, od, _, _, q1, q2, _, q3, q4⟩ => ?_⟩
  refine ⟨ρ1, hs1, N1, q1, q2, (PostO.bindS (R := RepS) q2 q4).mono fun iv H2 ⟨hs2, N2, id', z1, z2, z3, z4⟩ => ?_⟩
  cases e1 : viewL hs2 od with
  | none => simp only [e1] at z4; exact z4.elim
  | some xs =>
    simp only [e1] at z4
    split at z4
    · rename_i k
      obtain ⟨a, vs, rfl, a1, a2⟩ := viewL_of z1 (q3.ext z2) e1
      have hiv : iv = .int k := z3
      subst hiv
      cases e2 : atI xs k with
      | none => simp only [e2] at z4; exact z4.elim
      | some old =>
        simp only [e2] at z4
        obtain ⟨w, w1, w2⟩ := atI_rep a2 e2
        refine ⟨a, vs, k, w, rfl, rfl, SqL.of a1, w1, ρ1, hs2, N2, z1, q2.ext z2, (PostO.bindS (R := RepS) (q2.ext z2) z4).mono fun y H3 ⟨hs3, N3, d, y1, y2, y3, y4⟩ => ?_⟩
        cases d with
        | r n => exact y4.elim
        | d y' =>
          simp only at y4
          cases e3 : ipF f old y' with
          | none => simp only [e3] at y4; exact y4.elim
          | some zz =>
            simp only [e3] at y4
            · obtain ⟨i1, j1, rfl, rfl, rfl⟩ := ipF_of e3
              have hw : w = .int i1 := w2
              have hy : y = .int j1 := y3
              subst hw hy
              cases ef : setF hs3 od (.d (.int k)) (.d (.int (f i1 j1))) with
              | none => simp only [ef] at y4; exact y4.elim
              | some hs4 =>
                simp only [ef] at y4
                refine ⟨i1, j1, rfl, rfl, ?_⟩
                exact setF_of y1 ((q3.ext z2).ext y2) (show RepS _ _ _ (.d (.int k)) _ from rfl) (show RepS _ _ _ (.d (.int (f i1 j1))) (.int (f i1 j1)) from rfl) ef fun H' a b => y4 σ N3 H' a b.toP (((q2.ext z2).ext y2).ext b)
    · exact z4.elim
/-- name op= e of ints -/
def mAug (k : Nat) (f : Int → Int → Int) (a : ME) : MS := fun ρ hs => match ρ[k]? with
  | some (some (.d x)) => (a ρ hs).bindS ρ fun d hs1 => match d with
    | .d y => match ipF f x y with
      | some z => .nx (ρ.set k (some (.d z))) hs1
      | none => .bad
    | .r _ => .bad
  | _ => .bad
theorem ss_aug {k : Nat} {x : Str} {op : Operator} {f : Int → Int → Int} {pos' : Pos} (hN : X.N.Nodup) (hi : X.N[k]? = some x) (hx : Loc X.env.scope x) (he : SE X W e me) (hop : PIp X op (ipI f)) (hf : X.fn x = true ∨ X.env.scope.names.lookup x = some .local := by first | exact .inl rfl | exact .inr rfl | assumption) :
    SS X W P (.AugAssign (.Name x pos') op e pos) (mAug k f me) := by
  refine ps_of (ps_aug hN hi hx he hop hf) fun D σ H ⟨ρ, hs, N, hr, hE, q⟩ => ?_
  unfold mAug at q
  split at q
  · rename_i d hd
    obtain ⟨v, h1, h2⟩ := hE.2 k _ hd
    refine ⟨v, h1, ρ, hs, N, hr, hE, (PostO.bindS (R := RepS) hE q).mono fun y H1 ⟨hs1, N1, dy, z1, z2, z3, z4⟩ => ?_⟩
    cases dy with
    | r n => exact z4.elim
    | d y' =>
      simp only at z4
      cases e3 : ipF f d y' with
      | none => simp only [e3] at z4; exact z4.elim
      | some zz =>
        simp only [e3] at z4
        · obtain ⟨i1, j1, rfl, rfl, rfl⟩ := ipF_of e3
          have hv : v = .int i1 := h2
          have hy : y = .int j1 := z3
          subst hv hy
          exact ⟨i1, j1, rfl, rfl, z4 _ N1 H1 z1 Ext.refl ((hE.ext z2).set (show RepS _ _ _ (.d (.int (f i1 j1))) (.int (f i1 j1)) from rfl))⟩
  · exact q.elim
end

/-! ### new live things handed back -/
/-- return [..], kept live -/
def mRetNewL (a : MA) : MS := fun ρ hs => (a ρ hs).bindS ρ fun xs hs1 => match datas xs with
  | some ds => if ds.length ≤ sizeLine then .rt (.r hs1.length) (hs1 ++ [.lst ds]) else .bad
  | none => .bad
section
variable {X : Cx} {W : WX} {P : Nat → Prop}
theorem ss_retNewL {es : List Expr} {ma : MA} {pos pos2 : Pos} (he : SA X W es ma) : SS X W P (.Return (some (.List es pos)) pos2) (mRetNewL ma) := by
  refine ps_of (ps_ret (pe_lst he)) fun D σ H h => ?_
  obtain ⟨ρ, hs, N, hr, hE, q⟩ := TS'.two (R := RepSL) h
  refine ⟨ρ, hs, N, hr, hE, q.mono fun ys H1 ⟨ρ1, hs1, N1, a, _, _, q1, q2, _, q3, q4⟩ => ?_⟩
  cases e : datas a with
  | none => rw [e] at q4; exact q4.elim
  | some ds =>
    rw [e] at q4
    have rl := datas_of q3 e
    by_cases hl : ds.length ≤ sizeLine
    · simp only [if_pos hl] at q4
      refine ⟨by rw [← rl.length]; exact hl, fun p hp => ?_⟩
      have ex : ExtE H1 N1 (upd H1 p (.lst ys)) (N1.push p (q1.fresh hp)) := Ext.push hp (q1.fresh hp)
      exact q4 _ (N1.push p (q1.fresh hp)) _ (q1.push hp trivial ⟨ys, upd_same, RepL.ext ex _ _ rl⟩) ex.toP ⟨p, rfl, Lg.push_at q1.len⟩
    · simp only [if_neg hl] at q4; exact q4.elim
def mSetNew (i : Nat) (fm : FMN) (a : MA) : MS := fun ρ hs => (a ρ hs).bindS ρ fun ds hs1 => (callN fm ds hs1).bindS ρ fun c hs2 => .nx (ρ.set i (some (.r hs2.length))) (hs2 ++ [c])
theorem callN_sp {G : Gd} {H : Hp} {N : Lg} {hs : Hs} {n : Nat} {fm : FMN} {ds : List SV} {vs : List V} {D : Ends} {σ : L2.St} {ρ : Env'} {i : Nat} (h1 : HRel G hs N H) (hE : ERel G H N ρ σ) (h2 : RepSL G H N ds vs) (hl : vs.length = n)
    (q : PostS G W P H N D ((callN fm ds hs).bindS ρ fun c hs2 => .nx (ρ.set i (some (.r hs2.length))) (hs2 ++ [c]))) : spOfN G n fm vs H (fun v H' => D.nx (σ.set i (some v)) H') (WE W σ) := by
  refine ⟨hl, ?_⟩
  simp only [callN] at q
  cases e1 : renumL (refsOf ds) ds with
  | none => rw [e1] at q; exact q.elim
  | some ds' =>
    cases e2 : getAll hs (refsOf ds) with
    | none => rw [e1, e2] at q; exact q.elim
    | some cs =>
      rw [e1, e2] at q
      refine ⟨ds', cs, N.sel (refsOf ds) (refsOf_nodup ds), h1.sel e2, renumL_rep h2 e1, ?_⟩
      cases e3 : fm ds' cs with
      | bad => simp only [e3] at q; exact q.elim
      | exc c ns ws cs' =>
        simp only [e3] at q
        by_cases hz : cs'.length = (refsOf ds).length
        · rw [if_pos hz] at q
          intro cls dd N' H' a b r
          have up : ∀ a, N.L a → N'.L a := fun a l => b.sub a l (h1.there l) fun _ _ => trivial
          exact q cls dd σ N H' (h1.unsel (cs := cs) (k := 0) b a (by omega) (getAll_lt e2)) (Ext.unsel b).toP (hE.ext (Ext.unsel b)) (r.sub up)
        · rw [if_neg hz] at q; exact q.elim
      | ok c cs' =>
        simp only [e3] at q
        by_cases hz : cs'.length = (refsOf ds).length
        · rw [if_pos hz] at q
          intro p N' H' a b hp
          have up : ∀ a, N.L a → N'.L a := fun a l => b.sub a l (h1.there l) fun _ _ => trivial
          have np : ¬ N.L p := fun l => by
            have z := b.old cs'.length p l (h1.there l) hp
            have z2 := (List.getElem?_eq_some_iff.mp z).1
            have : (N.sel (refsOf ds) (refsOf_nodup ds)).M.length = (refsOf ds).length := by simp [Lg.sel]
            omega
          have hcs : HRel G (setAll hs (refsOf ds) cs') N H' := by
            have h := h1.unsel (cs := cs) (cs' := cs' ++ [c]) (k := 0) b a (by simp; omega) (getAll_lt e2)
            have e : setAll hs (refsOf ds) (cs' ++ [c]) = setAll hs (refsOf ds) cs' := by
              have key : ∀ (is : List Nat) (l : List Cell), l.length = is.length → setAll hs is (l ++ [c]) = setAll hs is l := by
                intro is
                induction is with
                | nil => intro l _; cases l <;> (unfold setAll; rfl)
                | cons j js ih =>
                  intro l hl
                  cases l with
                  | nil => simp at hl
                  | cons x xs =>
                    show (setAll hs js (xs ++ [c])).set j x = (setAll hs js xs).set j x
                    rw [ih xs (by simpa using hl)]
              exact key _ _ hz
            rw [e] at h; exact h
          have ex := Ext.unsel b
          have hn : H p = none := by
            rcases b.new p (N'.liv p (List.mem_of_getElem? hp)) with z | z
            · exact absurd z np
            · exact z
          -- p becomes ours
          have exP : ExtE H N H' (N.push p np) := by
            refine ⟨ex.keep, fun a h => ?_, fun i a _ h => ?_, fun a h _ _ => .inl h, fun i a h1 h2 h3 => ?_, ex.there, ex.hid⟩
            · rcases h with z | z
              · exact .inl z
              · right; rw [z]; exact hn
            · show (N.M ++ [some p])[i]? = _
              rw [List.getElem?_append_left (List.getElem?_eq_some_iff.mp h).1]; exact h
            · have hk : (N.M ++ [some p])[i]? = some (some a) := h3
              by_cases hi : i < N.M.length
              · rw [List.getElem?_append_left hi] at hk; exact hk
              · have hk' : i < (N.M ++ [some p]).length := (List.getElem?_eq_some_iff.mp hk).1
                have e : i = N.M.length := by simp at hk'; omega
                subst e
                rw [List.getElem?_append_right (Nat.le_refl _)] at hk
                simp at hk
                subst hk
                exact absurd h1 np
          have upP : ∀ a, (N.push p np).L a → N'.L a := fun a h => by
            rcases h with z | z
            · exact up a z
            · rw [z]; exact N'.liv p (List.mem_of_getElem? hp)
          have hrP : HRel G (setAll hs (refsOf ds) cs' ++ [c]) (N.push p np) H' := by
            refine ⟨by simp [Lg.push, hcs.len], fun j c' a' g1 g2 => ?_, fun a' ha' => a.mu a' (upP a' ha')⟩
            have g2' : (N.M ++ [some p])[j]? = some (some a') := g2
            by_cases hj : j < (setAll hs (refsOf ds) cs').length
            · rw [List.getElem?_append_left hj] at g1
              rw [List.getElem?_append_left (by rw [hcs.len]; exact hj)] at g2'
              -- the cell's content, with p live too
              by_cases m : j ∈ refsOf ds
              · obtain ⟨t, ht⟩ := List.getElem?_of_mem m
                have htl : t < cs'.length := by have := (List.getElem?_eq_some_iff.mp ht).1; omega
                have e1 : cs'[t]? = some cs'[t] := by simp [htl]
                rw [setAll_in (refsOf_nodup ds) ht e1 (getAll_lt e2 j m)] at g1
                cases g1
                exact (a.at_ t _ a' (by rw [List.getElem?_append_left htl]; exact e1) (b.pre t a' trivial (sel_at ht g2'))).sub upP
              · rw [setAll_out m] at g1
                refine CRel.ext exP (b.hid a' (N.liv a' (List.mem_of_getElem? g2')) (fun z => m ?_) (h1.there (N.liv a' (List.mem_of_getElem? g2')))) (h1.at_ j c' a' g1 g2')
                obtain ⟨t, ht⟩ := List.getElem?_of_mem z
                obtain ⟨i', q1, q2⟩ := of_sel_at ht
                rw [N.nd j i' a' g2' q2]
                exact List.mem_of_getElem? q1
            · have hl : j < (setAll hs (refsOf ds) cs' ++ [c]).length := (List.getElem?_eq_some_iff.mp g1).1
              have hj' : j = (setAll hs (refsOf ds) cs').length := by simp at hl; omega
              subst hj'
              rw [List.getElem?_append_right (Nat.le_refl _)] at g1
              rw [← hcs.len, List.getElem?_append_right (Nat.le_refl _)] at g2'
              simp at g1 g2'
              subst g1 g2'
              exact (a.at_ cs'.length c p (by rw [List.getElem?_append_right (Nat.le_refl _)]; simp) hp).sub upP
          exact q _ (N.push p np) H' hrP exP.toP ((hE.ext exP).set ⟨p, rfl, Lg.push_at hcs.len⟩)
        · rw [if_neg hz] at q; exact q.elim
theorem ss_setNew {k n i : Nat} {f : Addr} {fd : FuncData} {ps : List Str} {fm : FMN} {x y : Str} {p pos py spos : Pos} {e : Expr} {es : List Expr} {ma : MA} (F : FnG X.prog X.w X.K X.mg X.base k f fd ps (spOfN (Cx.g X) n fm)) (hgd : X.A.guards = some []) (hr : Room k X.A) (hg : Gl X x) (hm : X.mg x = some (.ref f)) (hk : PySem.W.keepIn X.K (.ref f) = true) (hb : Binds X.K fd ps []) (tk : Takes X W)
    (hN : X.N.Nodup) (hi : X.N[i]? = some y) (hx : Loc X.env.scope y) (ha : SA X W (e :: es) ma)
    (hal : ∀ ρ hs ds hs', ma ρ hs = .ok ds hs' → ds.length = n) (hs : swapsWith (.Call (.Name x p) (e :: es) [] pos) (some (.Name y py)) spos.line X.env = pure false := by rfl)
    (hf : X.fn y = true ∨ X.env.scope.names.lookup y = some .local := by first | exact .inl rfl | exact .inr rfl | assumption)
    (hdb : (x == ("__debug__" : Str)) = false := by decide) (he : starEach (e :: es) X.env = (false, eval e X.env) :: starEach es X.env := by rfl) (hpl : (backTo pos (starEach es X.env)).any (·.1) = false := by rfl) :
    SS X W P (.Assign [.Name y py] (.Call (.Name x p) (e :: es) [] pos) spos) (mSetNew i fm ma) := by
  refine ps_of (ps_set hN hi hx (pe_callG F hgd hr hg hm hk hb tk ha hdb he hpl) hs hf) fun D σ H h => ?_
  obtain ⟨ρ, hs, N, hr', hE, q⟩ := h
  refine ⟨ρ, hs, N, hr', hE, ?_⟩
  simp only [mSetNew] at q
  cases em : ma ρ hs with
  | bad => rw [em] at q; exact q.elim
  | exc c ns ws hs' => rw [em] at q; exact fun cls dd N' H' a b r => q cls dd σ N' H' a b.toP (hE.ext b) r
  | ok ds hs1 =>
    rw [em] at q
    intro vs N1 H1 a b r
    exact callN_sp a (hE.ext b) r (by rw [← r.length]; exact hal ρ hs ds hs1 em) (PostS.ext b.toP q)
end

/-! ### iterables -/
/-- a list, a tuple (frozen), the script -/
def itemsOf : SV → Option (List D)
  | .d (.lst xs) => some xs
  | .d (.tup xs) => some xs
  | .d (.scr xs) => some xs
  | _ => none
def mItL (a : ME) : MI := fun ρ hs => (a ρ hs).bind fun x hs1 => match x with
  | .d (.lst xs) => .ok xs hs1
  | .d (.scr xs) => .ok xs hs1
  | _ => .bad
def mItT (a : ME) : MI := fun ρ hs => (a ρ hs).bind fun x hs1 => match x with
  | .d (.tup xs) => .ok xs hs1
  | _ => .bad
section
variable {X : Cx} {W : WX} {tg it : Expr} {me : ME} {p pos : Pos}
theorem si_list (h : SE X W it me) : SI X W tg it (mItL me) := by
  refine pi_of (pi_list h) fun σ H R ⟨ρ, hs, N, hr, he, q⟩ => ?_
  refine ⟨ρ, hs, N, hr, he, ?_⟩
  simp only [mItL] at q
  cases em : me ρ hs with
  | bad => rw [em] at q; exact q.elim
  | exc c ns ws hs' => rw [em] at q; exact q
  | ok x hs1 =>
    rw [em] at q
    intro v N1 H1 a b r
    simp only [Out.bind] at q
    split at q
    · rename_i xs e
      split at e
      · cases e
        obtain ⟨p, vs, rfl, q1, q2, q3⟩ := (show Rep _ _ _ (.lst _) _ from r)
        exact ⟨p, rfl, ⟨vs, SqL.of q2⟩, q _ N1 H1 a b fun P => wk_list q2 q1 q3⟩
      · cases e
        obtain ⟨p, vs, rfl, q1, q3⟩ := (show Rep _ _ _ (.scr _) _ from r)
        exact ⟨p, rfl, ⟨vs, q1.sq⟩, q _ N1 H1 a b fun P => wk_scr q1 q3⟩
      · cases e
    · rename_i e
      split at e <;> cases e
    · exact q.elim
theorem si_tup (h : SE X W it me) : SI X W tg it (mItT me) := by
  refine pi_of (pi_tup h) fun σ H R ⟨ρ, hs, N, hr, he, q⟩ => ?_
  refine ⟨ρ, hs, N, hr, he, ?_⟩
  simp only [mItT] at q
  cases em : me ρ hs with
  | bad => rw [em] at q; exact q.elim
  | exc c ns ws hs' => rw [em] at q; exact q
  | ok x hs1 =>
    rw [em] at q
    intro v N1 H1 a b r
    simp only [Out.bind] at q
    split at q
    · rename_i xs e
      split at e
      · cases e
        obtain ⟨p, vs, rfl, q1, q3⟩ := (show Rep _ _ _ (.tup _) _ from r)
        exact ⟨p, rfl, ⟨vs, q1⟩, q _ N1 H1 a b fun P => wk_tup q1 q3⟩
      · cases e
    · rename_i e
      split at e <;> cases e
    · exact q.elim
def mRg1 (a : MA) : MI := fun ρ hs => (a ρ hs).bind fun ds hs1 => match ds with
  | [.d (.int j)] => if -(2 ^ 62) ≤ j ∧ j < 2 ^ 62 then .ok (rangeD 0 j.toNat) hs1 else .bad
  | _ => .bad
def mRg2 (a : MA) : MI := fun ρ hs => (a ρ hs).bind fun ds hs1 => match ds with
  | [.d (.int i), .d (.int j)] => if -(2 ^ 62) ≤ i ∧ i < 2 ^ 62 ∧ -(2 ^ 62) ≤ j ∧ j < 2 ^ 62 then .ok (rangeD i (j - i).toNat) hs1 else .bad
  | _ => .bad
theorem TIo.bindA {G : Gd} {ma : MA} {f : List SV → Hs → Out (List D)} {σ : L2.St} {H : Hp} {R : It → Hp → Prop} (h : TIo G W (fun ρ hs => (ma ρ hs).bind f) σ H R) :
    TR G W RepSL ma σ H fun vs H1 => ∃ hs1 N1 ds, HRel G hs1 N1 H1 ∧ RepSL G H1 N1 ds vs ∧ match f ds hs1 with
      | .ok items hs' => ∀ J N' H', HRel G hs' N' H' → ExtE H1 N1 H' N' → (∀ P, Wk G P J H' N' items) → R J H'
      | .exc c ns ws hs' => ∀ cls dd N' H', HRel G hs' N' H' → ExtE H1 N1 H' N' → XRep G H' N'.L c ns ws cls dd → W cls dd σ H'
      | .bad => False := by
  obtain ⟨ρ, hs, N, hr, he, q⟩ := h
  refine ⟨ρ, hs, N, hr, he, ?_⟩
  cases em : ma ρ hs with
  | bad => simp only [em] at q; exact q.elim
  | exc c ns ws hs' => simp only [em] at q; exact q
  | ok ds hs1 =>
    simp only [em, Out.bind] at q
    intro vs N1 H1 a b r
    refine ⟨hs1, N1, ds, a, r, ?_⟩
    cases ef : f ds hs1 with
    | bad => simp only [ef] at q
    | exc c ns ws hs' => simp only [ef] at q; exact fun cls dd N' H' x y z => q cls dd N' H' x (b.trans y) z
    | ok items hs' => simp only [ef] at q; exact fun J N' H' x y z => q J N' H' x (b.trans y) z
theorem si_range1 {a : Expr} {ma : MA} (hg : Gl X "range") (hm : X.mg "range" = none) (ha : SA X W [a] ma) (hs : starEach [a] X.env = [(false, eval a X.env)] := by rfl) : SI X W tg (.Call (.Name "range" p) [a] [] pos) (mRg1 ma) := by
  refine pi_of (pi_range1 hg hm ha hs) fun σ H R h => ?_
  obtain ⟨ρ, hs, N, hr, he, q⟩ := TIo.bindA h
  refine ⟨ρ, hs, N, hr, he, q.mono fun vs H1 ⟨hs1, N1, ds, a, r, z⟩ => ?_⟩
  split at z
  · rename_i items hs' e
    split at e
    · rename_i j
      split at e
      · rename_i hb
        cases e
        obtain ⟨v, rfl, r1⟩ := repSL1 r
        exact ⟨j, by rw [show v = .int j from r1], hb.1, hb.2, z _ N1 H1 a Ext.refl fun P => wk_range⟩
      · cases e
    · cases e
  · rename_i e
    split at e
    · split at e <;> cases e
    · cases e
  · exact z.elim
theorem si_range2 {a b : Expr} {ma : MA} (hg : Gl X "range") (hm : X.mg "range" = none) (ha : SA X W [a, b] ma) (hs : starEach [a, b] X.env = [(false, eval a X.env), (false, eval b X.env)] := by rfl) (hs2 : starEach [b] X.env = [(false, eval b X.env)] := by rfl) :
    SI X W tg (.Call (.Name "range" p) [a, b] [] pos) (mRg2 ma) := by
  refine pi_of (pi_range2 hg hm ha hs hs2) fun σ H R h => ?_
  obtain ⟨ρ, hs, N, hr, he, q⟩ := TIo.bindA h
  refine ⟨ρ, hs, N, hr, he, q.mono fun vs H1 ⟨hs1, N1, ds, a, r, z⟩ => ?_⟩
  split at z
  · rename_i items hs' e
    split at e
    · rename_i i j
      split at e
      · rename_i hb
        cases e
        obtain ⟨v, w, rfl, r1, r2⟩ := repSL2 r
        exact ⟨i, j, by rw [show v = .int i from r1, show w = .int j from r2], hb, z _ N1 H1 a Ext.refl fun P => wk_range⟩
      · cases e
    · cases e
  · rename_i e
    split at e
    · split at e <;> cases e
    · cases e
  · exact z.elim
/-- zip of two tuples, of two lists -/
def zipD : List D → List D → List D
  | x :: xs, y :: ys => .tup [x, y] :: zipD xs ys
  | _, _ => []
theorem zipD_get : ∀ {xs ys : List D} {i : Nat}, (zipD xs ys)[i]? = match xs[i]?, ys[i]? with | some x, some y => some (.tup [x, y]) | _, _ => none
  | [], ys, i => by simp [zipD]
  | x :: xs, [], i => by
    simp only [zipD, List.getElem?_nil]
    split <;> simp_all
  | x :: xs, y :: ys, 0 => by simp [zipD]
  | x :: xs, y :: ys, i + 1 => by simpa [zipD] using zipD_get (xs := xs) (ys := ys) (i := i)
theorem zipD_len : ∀ xs ys : List D, (zipD xs ys).length = min xs.length ys.length
  | [], ys => by simp [zipD]
  | x :: xs, [] => by simp [zipD]
  | x :: xs, y :: ys => by simp [zipD, zipD_len xs ys]
theorem wk_zipT {G : Gd} {H : Hp} {N : Lg} {P : Nat → Prop} {a b : Addr} {vs ws : List V} {xs ys : List D} (h : SqT G.K H a vs) (r : RepL G H N.L xs vs) (h' : SqT G.K H b ws) (r' : RepL G H N.L ys ws) : Wk G P (ItzT G.K a b) H N (zipD xs ys) where
  go := fun i hs H' N' _ e hi => by
    rw [zipD_len, r.length, r'.length] at hi
    exact ⟨vs, ws, vs[i]'(by omega), ws[i]'(by omega), e.sqT h, e.sqT h', by simp <;> omega, by simp <;> omega⟩
  yld := fun i hs H' N' x H'' d hr e hd ⟨T, u, v, h1, h2, h3, h4, h5⟩ => by
    subst h1 h3
    rw [zipD_get] at hd
    cases e1 : xs[i]? with
    | none => rw [e1] at hd; cases hd
    | some p =>
      cases e2 : ys[i]? with
      | none => rw [e1, e2] at hd; cases hd
      | some q =>
        rw [e1, e2] at hd
        cases hd
        obtain ⟨v1, q1, q2⟩ := r.get e1
        obtain ⟨v2, q3, q4⟩ := r'.get e2
        have k1 := h4 vs (e.sqT h)
        have k2 := h5 ws (e.sqT h')
        rw [q1] at k1; rw [q3] at k2
        cases k1; cases k2
        have ea := Ext.alloc (P := All) (N := N') (o := .tup [u, v]) h2
        exact ⟨hr.alloc h2, ea, T, [u, v], rfl, SqT.of upd_same, u, [v], rfl, Rep.ext ea _ _ (Rep.ext e _ _ q2), v, [], rfl, Rep.ext ea _ _ (Rep.ext e _ _ q4), rfl⟩
  stop := fun i hs H' N' _ e hi => by
    rw [zipD_len, r.length, r'.length] at hi
    exact ⟨vs, ws, e.sqT h, e.sqT h', by omega⟩
theorem wk_zipL {G : Gd} {H : Hp} {N : Lg} {P : Nat → Prop} {a b : Addr} {vs ws : List V} {xs ys : List D} (h : H a = some (.lst vs)) (hl : ¬ N.L a) (r : RepL G H N.L xs vs) (h' : H b = some (.lst ws)) (hl' : ¬ N.L b) (r' : RepL G H N.L ys ws) : Wk G P (Itz G.K a b) H N (zipD xs ys) where
  go := fun i hs H' N' _ e hi => by
    rw [zipD_len, r.length, r'.length] at hi
    exact ⟨vs, ws, vs[i]'(by omega), ws[i]'(by omega), SqL.of (e.keep _ _ h (.inl hl)), SqL.of (e.keep _ _ h' (.inl hl')), by simp <;> omega, by simp <;> omega⟩
  yld := fun i hs H' N' x H'' d hr e hd ⟨T, u, v, h1, h2, h3, h4, h5⟩ => by
    subst h1 h3
    rw [zipD_get] at hd
    cases e1 : xs[i]? with
    | none => rw [e1] at hd; cases hd
    | some p =>
      cases e2 : ys[i]? with
      | none => rw [e1, e2] at hd; cases hd
      | some q =>
        rw [e1, e2] at hd
        cases hd
        obtain ⟨v1, q1, q2⟩ := r.get e1
        obtain ⟨v2, q3, q4⟩ := r'.get e2
        have k1 := h4 vs (SqL.of (e.keep _ _ h (.inl hl)))
        have k2 := h5 ws (SqL.of (e.keep _ _ h' (.inl hl')))
        rw [q1] at k1; rw [q3] at k2
        cases k1; cases k2
        have ea := Ext.alloc (P := All) (N := N') (o := .tup [u, v]) h2
        exact ⟨hr.alloc h2, ea, T, [u, v], rfl, SqT.of upd_same, u, [v], rfl, Rep.ext ea _ _ (Rep.ext e _ _ q2), v, [], rfl, Rep.ext ea _ _ (Rep.ext e _ _ q4), rfl⟩
  stop := fun i hs H' N' _ e hi => by
    rw [zipD_len, r.length, r'.length] at hi
    exact ⟨vs, ws, SqL.of (e.keep _ _ h (.inl hl)), SqL.of (e.keep _ _ h' (.inl hl')), by omega⟩
def mZip (a : MA) : MI := fun ρ hs => (a ρ hs).bind fun ds hs1 => match ds with
  | [.d (.tup xs), .d (.tup ys)] => .ok (zipD xs ys) hs1
  | [.d (.lst xs), .d (.lst ys)] => .ok (zipD xs ys) hs1
  | _ => .bad
theorem si_zip {e e2 : Expr} {ma : MA} {tpos : Pos} {elts : List Expr} {kk : Nat} (hg : Gl X "zip") (hm : X.mg "zip" = none) (ha : SA X W [e, e2] ma)
    (hs : starEach [e, e2] X.env = (false, eval e X.env) :: starEach [e2] X.env := by rfl) (hpl : (backTo pos (starEach [e2] X.env)).any (·.1) = false := by rfl) : SI X W (.Tuple elts kk tpos) (.Call (.Name "zip" p) [e, e2] [] pos) (mZip ma) := by
  refine pi_of (pi_zipA hg hm ha hs hpl) fun σ H R h => ?_
  obtain ⟨ρ, hs, N, hr, he, q⟩ := TIo.bindA h
  refine ⟨ρ, hs, N, hr, he, q.mono fun vs H1 ⟨hs1, N1, ds, a, r, z⟩ => ?_⟩
  split at z
  · rename_i items hs' e
    split at e
    · rename_i xs ys
      cases e
      obtain ⟨v, w, rfl, r1, r2⟩ := repSL2 r
      obtain ⟨p1, vs1, rfl, s1, t1⟩ := (show Rep _ _ _ (.tup xs) _ from r1)
      obtain ⟨p2, vs2, rfl, s2, t2⟩ := (show Rep _ _ _ (.tup ys) _ from r2)
      exact ⟨p1, p2, vs1, vs2, rfl, .inr ⟨s1, s2, z _ N1 H1 a Ext.refl fun P => wk_zipT s1 t1 s2 t2⟩⟩
    · rename_i xs ys
      cases e
      obtain ⟨v, w, rfl, r1, r2⟩ := repSL2 r
      obtain ⟨p1, vs1, rfl, n1, s1, t1⟩ := (show Rep _ _ _ (.lst xs) _ from r1)
      obtain ⟨p2, vs2, rfl, n2, s2, t2⟩ := (show Rep _ _ _ (.lst ys) _ from r2)
      exact ⟨p1, p2, vs1, vs2, rfl, .inl ⟨SqL.of s1, SqL.of s2, z _ N1 H1 a Ext.refl fun P => wk_zipL s1 n1 t1 s2 n2 t2⟩⟩
    · cases e
  · rename_i e
    split at e <;> cases e
  · exact z.elim
/-- the signs of a text -/
def signsD (z : Str) : List D := z.cps.toList.map fun c => .str ⟨#[c]⟩
def mItS (a : ME) : MI := fun ρ hs => (a ρ hs).bind fun x hs1 => match x with
  | .d (.str z) => .ok (signsD z) hs1
  | _ => .bad
theorem wk_str {G : Gd} {H : Hp} {N : Lg} {P : Nat → Prop} {z : Str} : Wk G P (Its z) H N (signsD z) where
  go := fun i hs H' N' _ e hi => by
    show i < z.cps.size
    simpa [signsD] using hi
  yld := fun i hs H' N' x H'' d hr e hd ⟨h1, c, h2, h3⟩ => by
    subst h1 h3
    have : (signsD z)[i]? = some (.str ⟨#[c]⟩) := by
      simp only [signsD, List.getElem?_map, Array.getElem?_toList, h2]; rfl
    rw [this] at hd; cases hd
    exact ⟨hr, Ext.refl, rfl⟩
  stop := fun i hs H' N' _ e hi => by
    show z.cps.size ≤ i
    simpa [signsD] using hi
theorem si_str (h : SE X W it me) : SI X W tg it (mItS me) := by
  refine pi_of (pi_str h) fun σ H R ⟨ρ, hs, N, hr, he, q⟩ => ?_
  refine ⟨ρ, hs, N, hr, he, ?_⟩
  simp only [mItS] at q
  cases em : me ρ hs with
  | bad => rw [em] at q; exact q.elim
  | exc c ns ws hs' => rw [em] at q; exact q
  | ok x hs1 =>
    rw [em] at q
    intro v N1 H1 a b r
    simp only [Out.bind] at q
    split at q
    · rename_i xs e
      split at e
      · rename_i ys
        cases e
        exact ⟨ys, r, q _ N1 H1 a b fun P => wk_str⟩
      · cases e
    · rename_i e
      split at e <;> cases e
    · exact q.elim
end
end Py
end L2

set_option Elab.async false
set_option linter.all false
set_option maxRecDepth 100000
/-! What a module has: defs, values; calls of them; the end of a law. -/
namespace L2
namespace Py
open PySem PySem.Spec PyProof.Rows

/-- the module has the def x, with this mirror -/
def CalG (P : Program) (w : World) (K : PySem.W.Frag) (mg : Str → Option Value) (base : Heap) (k : Nat) (x : Str) (n : Nat) (fm : FM) : Prop :=
  ∃ f fd ps, FnG P w K mg base k f fd ps (spOf ⟨K, mg⟩ n fm) ∧ mg x = some (.ref f) ∧ PySem.W.keepIn K (.ref f) = true ∧ Binds K fd ps []
def CalN (P : Program) (w : World) (K : PySem.W.Frag) (mg : Str → Option Value) (base : Heap) (k : Nat) (x : Str) (n : Nat) (fm : FMN) : Prop :=
  ∃ f fd ps, FnG P w K mg base k f fd ps (spOfN ⟨K, mg⟩ n fm) ∧ mg x = some (.ref f) ∧ PySem.W.keepIn K (.ref f) = true ∧ Binds K fd ps []
theorem CalG.mono {P : Program} {w : World} {K : PySem.W.Frag} {mg : Str → Option Value} {base : Heap} {k j n : Nat} {x : Str} {fm : FM} (h : CalG P w K mg base k x n fm) (hk : k ≤ j := by decide) : CalG P w K mg base j x n fm := by
  obtain ⟨f, fd, ps, h1, h2⟩ := h
  exact ⟨f, fd, ps, h1.mono hk, h2⟩
theorem CalN.mono {P : Program} {w : World} {K : PySem.W.Frag} {mg : Str → Option Value} {base : Heap} {k j n : Nat} {x : Str} {fm : FMN} (h : CalN P w K mg base k x n fm) (hk : k ≤ j := by decide) : CalN P w K mg base j x n fm := by
  obtain ⟨f, fd, ps, h1, h2⟩ := h
  exact ⟨f, fd, ps, h1.mono hk, h2⟩
/-- a def as it stands in the module -/
def DefG (K : PySem.W.Frag) (mg : Str → Option Value) (x : Str) (st : Stmt) (ps : List Str) : Prop :=
  ∃ f fd, Fun K x x st f fd ∧ mg x = some (.ref f) ∧ Binds K fd ps []
/-- a value of the module -/
def GvR (K : PySem.W.Frag) (mg : Str → Option Value) (x : Str) (d : D) : Prop :=
  ∃ v u, mg x = some u ∧ RelV v u ∧ ∀ H L, Rep ⟨K, mg⟩ H L d v
section
variable {X : Cx} {W : WX} {k n : Nat} {x : Str} {p pos : Pos} {e : Expr} {es : List Expr} {ma : MA} {fm : FM}
theorem se_gv {d : D} (h : GvR X.K X.mg x d) (hg : Gl X x) (hd : (x == ("__debug__" : Str)) = false := by decide) : SE X W (.Name x pos) (mC d) := by
  obtain ⟨v, u, h1, h2, h3⟩ := h
  exact se_glob hg h1 h2 h3 hd
theorem se_fn (h : CalG X.prog X.w X.K X.mg X.base k x n fm) (hg : Gl X x) (hd : (x == ("__debug__" : Str)) = false := by decide) : SE X W (.Name x pos) (mC (.glo x)) := by
  obtain ⟨f, fd, ps, _, h1, _⟩ := h
  exact se_glob (v := .ref f) hg h1 rfl (fun _ _ => ⟨f, rfl, h1⟩) hd
theorem se_defG {st : Stmt} {ps : List Str} (h : DefG X.K X.mg x st ps) (hg : Gl X x) (hd : (x == ("__debug__" : Str)) = false := by decide) : SE X W (.Name x pos) (mC (.glo x)) := by
  obtain ⟨f, fd, _, h1, _⟩ := h
  exact se_glob (v := .ref f) hg h1 rfl (fun _ _ => ⟨f, rfl, h1⟩) hd
theorem se_callG (h : CalG X.prog X.w X.K X.mg X.base k x n fm) (hgd : X.A.guards = some []) (hr : Room k X.A) (tk : Takes X W) (hg : Gl X x) (ha : SA X W (e :: es) ma)
    (hal : ∀ ρ hs ds hs', ma ρ hs = .ok ds hs' → ds.length = n) (hdb : (x == ("__debug__" : Str)) = false := by decide) (he : starEach (e :: es) X.env = (false, eval e X.env) :: starEach es X.env := by rfl) (hpl : (backTo pos (starEach es X.env)).any (·.1) = false := by rfl) :
    SE X W (.Call (.Name x p) (e :: es) [] pos) (mCall fm ma) := by
  obtain ⟨f, fd, ps, h1, h2, h3, h4⟩ := h
  refine pe_of (pe_callG h1 hgd hr hg h2 h3 h4 tk ha hdb he hpl) fun σ H Q h => ?_
  obtain ⟨ρ, hs, N, hr, hE, q⟩ := h
  refine ⟨ρ, hs, N, hr, hE, ?_⟩
  simp only [mCall] at q
  cases em : ma ρ hs with
  | bad => rw [em] at q; exact q.elim
  | exc c ns ws hs' => rw [em] at q; exact q
  | ok ds hs1 =>
    rw [em] at q
    intro vs N1 H1 a b r
    exact call_sp a r (by rw [← r.length]; exact hal ρ hs ds hs1 em) (PostO.ext b q)
theorem se_callG0 (h : CalG X.prog X.w X.K X.mg X.base k x 0 fm) (hgd : X.A.guards = some []) (hr : Room k X.A) (tk : Takes X W) (hg : Gl X x) (hdb : (x == ("__debug__" : Str)) = false := by decide) :
    SE X W (.Call (.Name x p) [] [] pos) (mCall fm mNil) := by
  obtain ⟨f, fd, ps, h1, h2, h3, h4⟩ := h
  exact se_call0 h1 hgd hr hg h2 h3 h4 tk hdb
theorem ss_setNewG {P : Nat → Prop} {i : Nat} {y : Str} {py spos : Pos} {fn : FMN} (h : CalN X.prog X.w X.K X.mg X.base k x n fn) (hgd : X.A.guards = some []) (hr : Room k X.A) (tk : Takes X W) (hg : Gl X x)
    (hN : X.N.Nodup) (hi : X.N[i]? = some y) (hx : Loc X.env.scope y) (ha : SA X W (e :: es) ma) (hal : ∀ ρ hs ds hs', ma ρ hs = .ok ds hs' → ds.length = n)
    (hs : swapsWith (.Call (.Name x p) (e :: es) [] pos) (some (.Name y py)) spos.line X.env = pure false := by rfl)
    (hf : X.fn y = true ∨ X.env.scope.names.lookup y = some .local := by first | exact .inl rfl | exact .inr rfl | assumption)
    (hdb : (x == ("__debug__" : Str)) = false := by decide) (he : starEach (e :: es) X.env = (false, eval e X.env) :: starEach es X.env := by rfl) (hpl : (backTo pos (starEach es X.env)).any (·.1) = false := by rfl) :
    SS X W P (.Assign [.Name y py] (.Call (.Name x p) (e :: es) [] pos) spos) (mSetNew i fn ma) := by
  obtain ⟨f, fd, ps, h1, h2, h3, h4⟩ := h
  exact ss_setNew h1 hgd hr hg h2 h3 h4 tk hN hi hx ha hal hs hf hdb he hpl
/-- a call of a local name that holds one of some defs -/
def mCallV (i : Nat) (tb : List (Str × FM)) (ma : MA) : ME := fun ρ hs => match ρ[i]? with
  | some (some (.d (.glo y))) => match tb.lookup y with
    | some fm => mCall fm ma ρ hs
    | none => .bad
  | _ => .bad
theorem se_callV {i : Nat} {tb : List (Str × FM)} (h : ∀ y fm, tb.lookup y = some fm → CalG X.prog X.w X.K X.mg X.base k y n fm) (hgd : X.A.guards = some []) (hr : Room k X.A) (tk : Takes X W) (ha : SA X W (e :: es) ma)
    (hal : ∀ ρ hs ds hs', ma ρ hs = .ok ds hs' → ds.length = n) (hN : X.N[i]? = some x := by rfl) (hv : Vis X.env.scope x := by first | exact Or.inl rfl | exact Or.inr (Or.inl rfl) | exact Or.inr (Or.inr rfl))
    (hdb : (x == ("__debug__" : Str)) = false := by decide) (hcd : (x == ("__classdict__" : Str)) = false := by decide) (he : starEach (e :: es) X.env = (false, eval e X.env) :: starEach es X.env := by rfl) (hpl : (backTo pos (starEach es X.env)).any (·.1) = false := by rfl) :
    SE X W (.Call (.Name x p) (e :: es) [] pos) (mCallV i tb ma) := by
  refine ⟨fun pins s σ H Q I hh => ?_⟩
  obtain ⟨ρ, hs, N, hrl, hE, q⟩ := hh
  unfold mCallV at q
  split at q
  · rename_i y hy
    cases ef : tb.lookup y with
    | none => simp only [ef] at q; exact q.elim
    | some fm =>
      simp only [ef] at q
      obtain ⟨f, fd, ps, h1, h2, h3, h4⟩ := h y fm ef
      obtain ⟨v, g1, g2⟩ := hE.2 i _ hy
      obtain ⟨a, rfl, g3⟩ := (show Rep (Cx.g X) H N.L (.glo y) v from g2)
      have ea : f = a := by
        have := h2.symm.trans g3
        cases this; rfl
      subst ea
      refine wpAny_Call_Name_kw (thn ((pe_var (pos := p) hN hv hdb hcd).run pins s σ H (fun v H1 => v = .ref f ∧ H1 = H) I ⟨.ref f, g1, rfl, rfl⟩) fun u s1 ⟨v, H1, I1, r1, q1⟩ => ?_)
      obtain ⟨rfl, rfl⟩ := q1
      cases r1
      have qa : TR (Cx.g X) W RepSL ma σ H1 fun vs H1 => spOf (Cx.g X) n fm vs H1 Q (WE W σ) := by
        refine ⟨ρ, hs, N, hrl, hE, ?_⟩
        simp only [mCall] at q
        cases em : ma ρ hs with
        | bad => rw [em] at q; exact q.elim
        | exc c ns ws hs' => rw [em] at q; exact q
        | ok ds hs1 =>
          rw [em] at q
          intro vs N1 H1 a b r
          exact call_sp a r (by rw [← r.length]; exact hal ρ hs ds hs1 em) (PostO.ext b q)
      refine PySem.W.callWith_K (h₀ := X.base) I.ok.mod.kin h3 (thn (ha.run pos pins s1 σ _ _ I1 qa) fun us s2 ⟨vs, H2, I2, r, q⟩ => ⟨I2.kIn, ?_⟩) he hpl
      exact runG h1 hgd hr h4 tk I2 r q
  · exact q.elim
end

theorem tb_one {P : Program} {w : World} {K : PySem.W.Frag} {mg : Str → Option Value} {base : Heap} {k n : Nat} {x : Str} {fm : FM} (h : CalG P w K mg base k x n fm) : ∀ y fn, [(x, fm)].lookup y = some fn → CalG P w K mg base k y n fn := by
  intro y fn e
  simp only [List.lookup] at e
  split at e
  · rename_i e1
    cases e
    rw [eq_of_beq e1]
    exact h
  · cases e

/-! ### the module's plain values -/
def atomD : Value → Option D
  | .none => some .non
  | .bool b => some (.bl b)
  | .int i _ => some (.int i)
  | .str x _ => some (.str x)
  | _ => none
def atomsD : List Value → Option (List D)
  | [] => some []
  | v :: r => match atomD v, atomsD r with
    | some d, some ds => some (d :: ds)
    | _, _ => none
theorem atomD_of {u : Value} {d : D} (h : atomD u = some d) : ∃ v, RelV v u ∧ ∀ G H L, Rep G H L d v := by
  cases u with
  | none => cases h; exact ⟨.non, rfl, fun _ _ _ => rfl⟩
  | bool b => cases h; exact ⟨.bl b, rfl, fun _ _ _ => rfl⟩
  | int i t => cases h; exact ⟨.int i, ⟨t, rfl⟩, fun _ _ _ => rfl⟩
  | str x t => cases h; exact ⟨.str x, ⟨t, rfl⟩, fun _ _ _ => rfl⟩
  | _ => cases h
theorem atomsD_of : ∀ {us : List Value} {ds : List D}, atomsD us = some ds → ∃ vs, Vals vs us ∧ ∀ G H L, RepL G H L ds vs
  | [], ds, h => by cases h; exact ⟨[], .nil, fun _ _ _ => rfl⟩
  | u :: us, ds, h => by
    unfold atomsD at h
    cases e1 : atomD u with
    | none => rw [e1] at h; cases h
    | some d =>
      cases e2 : atomsD us with
      | none => rw [e1, e2] at h; cases h
      | some r =>
        rw [e1, e2] at h
        cases h
        obtain ⟨v, a1, a2⟩ := atomD_of e1
        obtain ⟨vs, b1, b2⟩ := atomsD_of e2
        exact ⟨v :: vs, .cons a1 b1, fun G H L => ⟨v, vs, rfl, a2 G H L, b2 G H L⟩⟩
section
variable {K : PySem.W.Frag} {mg : Str → Option Value} {x : Str} {h : Heap}
theorem gv_atom {u : Value} {d : D} (X : K.In h) (G : h.Ns mainGlobals mg) (a : PySem.W.nsIn K mainGlobals x = some (some u)) (e : atomD u = some d) : GvR K mg x d := by
  obtain ⟨v, h1, h2⟩ := atomD_of e
  exact ⟨v, u, PySem.W.mg_of X G a, h1, h2 _⟩
theorem gv_tup {b : Addr} {o : Obj} {ds : List D} (X : K.In h) (G : h.Ns mainGlobals mg) (a : PySem.W.nsIn K mainGlobals x = some (some (.ref b))) (l : K.lookup b = some o)
    (e : (match o.cls, o.data with | .type t, .seq its _ => decide (t = "tuple" ∧ its.size ≤ 1000) | _, _ => false) = true)
    (e2 : (match o.data with | .seq its _ => atomsD its.toList | _ => none) = some ds) : GvR K mg x (.tup ds) := by
  split at e
  · rename_i t its n ec ed
    rw [ed] at e2
    obtain ⟨rfl, hz⟩ := of_decide_eq_true e
    obtain ⟨vs, h1, h2⟩ := atomsD_of e2
    refine ⟨.ref b, _, PySem.W.mg_of X G a, rfl, fun H L => ⟨b, vs, rfl, .inr ⟨o, its, n, l, ec, ed, ?_, h1⟩, h2 _ _ _⟩⟩
    exact Nat.le_of_lt (small1000 hz)
  · cases e
theorem defG_mk {qs : List Str} {st : Stmt} {f : Addr} {oc : Value} {od an : Option Addr} {osl : Array (Option Value)} {kV doc pm cdv ct : Value} (X : K.In h) (G : h.Ns mainGlobals mg) (a : PySem.W.nsIn K mainGlobals x = some (some (.ref f)))
    (l : K.lookup f = some ⟨oc, od, .func (PySem.W.fnOf x x (defArgs st) (defBody st) (defScope st) .none kV doc pm an cdv ct), osl⟩)
    (c : PySem.W.codeIn K cdv x = true) (k : PySem.W.keepIn K (.ref f) = true)
    (b : ∀ (kV doc pm : Value) (an : Option Addr) (cdv ct : Value) (us : List Value), us.length = qs.length → bindArgs (PySem.W.fnOf x x (defArgs st) (defBody st) (defScope st) .none kV doc pm an cdv ct) ⟨us, []⟩ = pure (qs.zip us)) : DefG K mg x st qs :=
  ⟨f, _, fun_mk l c k, PySem.W.mg_of X G a, (fun_mk l c k).binds b⟩
end

/-! ### the end -/
section
variable {P : Program} {w : World} {K : PySem.W.Frag} {mg mb : Str → Option Value}
/-- the law's own def, called with the script -/
theorem law_callG {k : Nat} {fa a : Addr} {fd : FuncData} {x : Str} {fm : FM} {s₁ : Shared} {vs : List Value} {ns : List Int}
    (KX : K.In s₁.heap) (hns : s₁.heap.Ns mainGlobals mg) (hb : s₁.heap.Ns builtinsNs mb) (hbb : ∀ x : Str, x ≠ "__name__" → mb x = bootBuiltins x) (hlim : s₁.heap.NoLimit) (hg : s₁.gens = #[])
    (ha : s₁.heap.get? a = some { cls := .type "list", data := .seq vs.toArray }) (hi : IntsAre vs ns) (hl : ns.length ≤ sizeLine) (hr : Room k callerA)
    (F : ∀ base : Heap, K.In base → base.Ns mainGlobals mg → FnG P w K mg base k fa fd [x] (spOf ⟨K, mg⟩ 1 fm)) (hbind : ∀ (s : Shared) (u : Value), BindsTo s fd ⟨[u], []⟩ [(x, u)])
    (hsp : fm [.d (.scr (ns.map .int))] [] = .ok (.bl true) []) :
    codeAny (model P w) callerA (.call (.ref fa) ⟨[.ref a], []⟩) (fun r s' => r = .ok (.ret (.bool true)) ∧ OldK s₁.heap s'.heap ∧ s'.os = s₁.os ∧ AllBare s'.gens) s₁ := by
  have rv := vals_ints hi
  have lenV := hi.length
  have sp : ∀ H : Hp, ScrAt K H a (ns.map V.int) → spOf ⟨K, mg⟩ 1 fm [.ref a] H (fun v _ => v = .bl true) fun _ _ _ => False := fun H hS => by
    refine ⟨rfl, [.d (.scr (ns.map .int))], [], ⟨[], fun _ => False, fun a q => (by simp at q), fun i j a q => (by simp at q)⟩, ⟨rfl, fun i c a q => (by simp at q), fun a q => q.elim⟩, ?_, ?_⟩
    · refine ⟨.ref a, [], rfl, ⟨a, ns.map V.int, rfl, hS, ?_⟩, rfl⟩
      clear hi hl hsp hS rv lenV
      induction ns with
      | nil => rfl
      | cons n r ih => exact ⟨.int n, r.map V.int, rfl, rfl, ih⟩
    · rw [hsp]
      exact fun v N' H' _ _ r => r
  have core : ∀ H : Hp, (∀ b, H b = none ∨ ∃ o xs, H b = some (.frz o (.lst xs))) → ScrAt K H a (ns.map V.int) → HOk P w H s₁.heap → (∀ b, H b ≠ none → b = a) → (H a ≠ none → K.lookup a = none) →
      codeAny (model P w) callerA (.call (.ref fa) ⟨[.ref a], []⟩) (fun r s' => r = .ok (.ret (.bool true)) ∧ OldK s₁.heap s'.heap ∧ s'.os = s₁.os ∧ AllBare s'.gens) s₁ := by
    intro H hO hS hok hA hK
    have free : ∀ {b : Addr} {o : Obj}, s₁.heap.get? b = some o → (∀ vs n, o.data ≠ .seq vs n) → H b = none := fun {b o} e h1 => by
      cases q : H b with
      | none => rfl
      | some u =>
        obtain rfl : b = a := hA b (by rw [q]; simp)
        rw [ha] at e; cases e
        exact absurd rfl (h1 _ _)
    have nsK : ∀ {b : Addr} {m : Str → Option Value}, s₁.heap.Ns b m → (hidT s₁.heap H).Ns b m := fun {b m} ⟨o, es, ep, e, d, r⟩ => ⟨o, es, ep, hidT_get e (free e fun vs n z => by rw [d] at z; cases z), d, r⟩
    have hKb : K.In (hidT s₁.heap H) := fun b o e => hidT_get (KX b o e) (by
      cases q : H b with
      | none => rfl
      | some u =>
        obtain rfl : b = a := hA b (by rw [q]; simp)
        rw [hK (by rw [q]; simp)] at e; cases e)
    have hM : Mod K mg (hidT s₁.heap H) := ⟨hKb, nsK hns, ⟨mb, nsK hb, hbb⟩, let ⟨mc, h1, h2⟩ := hlim; ⟨mc, nsK h1, h2⟩⟩
    have e0 : Env0 P w K mg (hidT s₁.heap H) callerA [] s₁ H := ⟨rfl, hM, fun b o e => of_hidT e, Nat.le_of_eq (hidT_size _ _), trivial, fun b hb => absurd (show b ∈ ([] : List Addr) from hb) (by simp), hok, .of_eq hg⟩
    refine codeAny_mono ((F _ hKb (nsK hns)).run callerA [] s₁ H ⟨[.ref a], []⟩ [.ref a] [.ref a] _ _ rfl hr e0 (hbind s₁ (.ref a)) (.cons rfl .nil) (sp H hS)) fun r s' h => ?_
    match r, h with
    | .error e, h =>
      obtain ⟨_, _, _, _, _, _, _, _, _, _, _, z⟩ := h
      exact z.2.elim
    | .ok .next, h => exact False.elim h
    | .ok .brk, h => exact False.elim h
    | .ok .cont, h => exact False.elim h
    | .ok (.ret u), h =>
      obtain ⟨v, H', os, bare, un, hok', r', q⟩ := h
      obtain rfl : v = .bl true := q
      obtain rfl : u = Value.bool true := r'
      refine ⟨rfl, OldK.of_keep fun b o e => ?_, os, bare⟩
      rcases hO b with z | ⟨ob, xs, z⟩
      · exact un.keep b o e z (fun m => absurd (show b ∈ ([] : List Addr) from m) (by simp)) (by simp)
      · obtain ⟨e1, _⟩ := hok b _ z
        obtain ⟨e2, _⟩ := hok' b _ (un.frzs b ob _ z)
        rw [e] at e1; cases e1
        exact e2
  cases hk : K.lookup a with
  | some o =>
    have e := KX a o hk
    rw [ha] at e
    cases e
    have hq : ∀ H : Hp, SqL K H a (ns.map V.int) := fun H => .inr ⟨_, vs.toArray, _, hk, rfl, rfl, rfl, by rw [List.size_toArray, lenV]; exact hl, by simpa using rv⟩
    refine core (fun _ => none) (fun _ => .inl rfl) (.inr ⟨hq _, _, hk, hq⟩) (fun b u z => ?_) (fun b z => absurd rfl z) fun z => absurd rfl z
    have z' : (none : Option HO) = some u := z
    cases z'
  | none =>
    refine core (fun b => if b = a then some (.frz { cls := .type "list", data := .seq vs.toArray } (.lst (ns.map V.int))) else none) (fun b => ?_) (.inl ⟨{ cls := .type "list", data := .seq vs.toArray }, if_pos rfl⟩) (fun b u z => ?_) (fun b z => ?_) fun _ => hk
    · by_cases hb : b = a
      · exact .inr ⟨_, _, if_pos hb⟩
      · exact .inl (if_neg hb)
    · by_cases hb : b = a
      · have z' := (if_pos hb).symm.trans z
        cases z'
        subst hb
        exact ⟨ha, by rw [List.length_map]; exact hl, vs, _, rv, ha⟩
      · have z' := (if_neg hb).symm.trans z
        cases z'
    · by_cases hb : b = a
      · exact hb
      · exact absurd (if_neg hb) z
end
/-- what k_head leaves -/
theorem walk_ofG {l : PySem.W.OpenLaw} {n k : Nat} {q : Program} {loose : List Str} {XP : (Str → Option Value) → Heap → Prop} {YP : World → Heap → Prop} {d : DefRec} {K : Params → PySem.W.Frag} {x : Str} {fm : FM}
    (hn : l.most = some n) (hn2 : n ≤ sizeLine) (hdf : d.params.defaults = []) (hr : Room k callerA)
    (hY : ∀ (w : World) (h : Heap), YP w h → (K w.params).In h)
    (F : ∀ (w : World) (mg : Str → Option Value) (fa : Addr) (h : Heap), (K w.params).In h → h.Ns mainGlobals mg → mg d.name = some (.ref fa) →
      ∃ fd : FuncData, (∀ (s : Shared) (u : Value), BindsTo s fd ⟨[u], []⟩ [(x, u)]) ∧
        ∀ base : Heap, (K w.params).In base → base.Ns mainGlobals mg → FnG l.prog w (K w.params) mg base k fa fd [x] (spOf ⟨K w.params, mg⟩ 1 fm))
    (hsp : ∀ ns : List Int, ns.length ≤ n → fm [.d (.scr (ns.map .int))] [] = .ok (.bl true) []) :
    PySem.W.WalkO q loose XP YP l.row.toRowW d [] (fun f vs => PySem.call f vs) := by
  refine Att.attach_call hn hdf fun w s₀ s₁ mg mb fa o pm cd doc a vs ns G Y ho hd hcd hmg hobj hints hlen hg => ?_
  have KX := hY w _ Y
  obtain ⟨fd, hb, hF⟩ := F w mg fa _ KX G.T.g hmg
  exact law_callG KX G.T.g G.T.b G.T.builtins G.T.nolimit hg hobj hints (Nat.le_trans hlen hn2) hr hF hb (hsp ns hlen)
end Py
end L2

set_option Elab.async false
set_option linter.all false
set_option maxRecDepth 100000
/-! What the laws draw. -/
namespace L2
namespace Py
open PySem PySem.Spec PyProof.Rows
def b__law_bag : MS :=
  (mRetNewL (mCons (mC (.int 0)) (mCons (mC (.int 1234567891)) (mCons (mC (.int 0)) (mCons (mLcE [1] (.nm 1) (mItL (mSl (mVar 0) mNo (mSo (mC (.int 63))))) mYes (mBf absF (mCons (mVar 1) mNil))) mNil)))))
def f__law_bag : FMN := mFnN 2 (b__law_bag)
def b__law_take : MS :=
  (mSeq (mIfS (mB (m2 (eqF false) (m2 ixF (mVar 0) (mC (.int 0))) (mC (.int 0)))) (mSeq (mSet 2 (m2 ixF (m2 addF (mSl (m2 ixF (mVar 0) (mC (.int 3))) (mSo (m2 ixF (mVar 0) (mC (.int 2)))) mNo) (mLst (mCons (mC (.int 0)) mNil))) (mC (.int 0))))
  (mSeq (mAugI (· + ·) (mVar 0) (mC (.int 2)) (mC (.int 1)))
  (mSeq (mIfS (mB (m2 geF (mVar 2) (m2 powF (mC (.int 10)) (mC (.int 18))))) (mSetI (mVar 2) (mVar 0) (mC (.int 0))) mSkip)
  (mSeq (mSet 3 (m2 addF (m2 addF (m2 mulF (m2 ixF (mVar 0) (mC (.int 1))) (mC (.int 48271))) (m2 modF (mBf intFn (mCons (mVar 2) mNil)) (mC (.int 2147483647)))) (m2 mulF (mC (.int 7919)) (m2 ixF (mVar 0) (mC (.int 2))))))
  (mSetI (m2 modF (mBf intFn (mCons (mVar 3) mNil)) (mC (.int 2147483647))) (mVar 0) (mC (.int 1))))))) mSkip)
  (mSeq (mIfS (mB (m2 gtF (m2 ixF (mVar 0) (mC (.int 0))) (mC (.int 0)))) (mSeq (mSet 4 (m2 modF (mBf intFn (mCons (m2 ixF (mVar 0) (mC (.int 0))) mNil)) (mVar 1)))
  (mSeq (mSetI (m2 fdivF (mBf intFn (mCons (m2 ixF (mVar 0) (mC (.int 0))) mNil)) (mVar 1)) (mVar 0) (mC (.int 0)))
  (mRet (mVar 4)))) mSkip)
  (mSeq (mSet 5 (m2 modF (mBf intFn (mCons (m2 mulF (m2 addF (m2 ixF (mVar 0) (mC (.int 1))) (mC (.int 1))) (mC (.int 39373))) mNil)) (mC (.int 1000000007))))
  (mSeq (mSet 6 (m2 modF (mBf intFn (mCons (m2 mulF (m2 modF (mBf intFn (mCons (m2 mulF (mVar 5) (mVar 5)) mNil)) (mC (.int 998244353))) (mC (.int 30011))) mNil)) (mC (.int 998244353))))
  (mRet (m2 modF (mBf intFn (mCons (m2 fdivF (mVar 6) (mC (.int 7))) mNil)) (mVar 1)))))))
def f__law_take : FM := mFn 7 (b__law_take)
def b__law_some : MS :=
  (mRet (m2 ixF (mVar 1) (mCall f__law_take (mCons (mVar 0) (mCons (mBf lenF (mCons (mVar 1) mNil)) mNil)))))
def f__law_some : FM := mFn 2 (b__law_some)

def bagC (a b c : Int) (ns : List Int) : Cell := .lst [.int a, .int b, .int c, .lst (ns.map .int)]
section
variable {ρ ρ1 : Env'} {hs hs1 hs2 : Hs} {x y : SV} {d : D} {a b : ME} {f : F2}
theorem m2_ok (h1 : a ρ hs = .ok x hs1) (h2 : b ρ hs1 = .ok y hs2) (h3 : f hs2 x y = some d) : m2 f a b ρ hs = .ok (.d d) hs2 := by
  simp only [m2, h1, Out.bind, h2, h3, ofO]
theorem seq_nx {s t : MS} (h : s ρ hs = .nx ρ1 hs1) : mSeq s t ρ hs = t ρ1 hs1 := by simp only [mSeq, h, OutS.bind]
theorem seq_rt {s t : MS} (h : s ρ hs = .rt x hs1) : mSeq s t ρ hs = .rt x hs1 := by simp only [mSeq, h, OutS.bind]
theorem if_true {c : MT} {s t : MS} (h : c ρ hs = .ok true hs1) : mIfS c s t ρ hs = s ρ hs1 := by simp only [mIfS, h, Out.bindS]; exact if_pos trivial
theorem if_false {c : MT} {s t : MS} (h : c ρ hs = .ok false hs1) : mIfS c s t ρ hs = t ρ hs1 := by simp only [mIfS, h, Out.bindS, if_neg Bool.false_ne_true]
theorem set_ok {i : Nat} (h : a ρ hs = .ok x hs1) : mSet i a ρ hs = .nx (ρ.set i (some x)) hs1 := by simp only [mSet, h, Out.bindS]
theorem ret_ok (h : a ρ hs = .ok x hs1) : mRet a ρ hs = .rt x hs1 := by simp only [mRet, h, Out.bindS]
theorem b_ok {k : Bool} (h : a ρ hs = .ok (.d (.bl k)) hs1) : mB a ρ hs = .ok k hs1 := by simp only [mB, h, Out.bind, asB, ofB]
end
theorem eqF_int {hs : Hs} (i j : Int) : eqF false hs (.d (.int i)) (.d (.int j)) = some (.bl (i == j)) := rfl
theorem toInt {xs : List D} {d : D} (h : d ∈ xs ++ [D.int 0]) (h2 : ∀ x ∈ xs, ∃ n, x = .int n) : ∃ n, d = .int n := by
  rcases List.mem_append.mp h with h | h
  · exact h2 d h
  · exact ⟨0, by simpa using h⟩
/-- the cell that is read -/
theorem cell_ok (a b c m : Int) (ns : List Int) (hl : ns.length ≤ 1000) (x2 x3 x4 x5 x6 : Option SV) : ∃ z : Int,
    (m2 ixF (m2 addF (mSl (m2 ixF (mVar 0) (mC (.int 3))) (mSo (m2 ixF (mVar 0) (mC (.int 2)))) mNo) (mLst (mCons (mC (.int 0)) mNil))) (mC (.int 0))) [some (.r 0), some (.d (.int m)), x2, x3, x4, x5, x6] [bagC a b c ns] = .ok (.d (.int z)) [bagC a b c ns] := by
  have e1 : (mSl (m2 ixF (mVar 0) (mC (.int 3))) (mSo (m2 ixF (mVar 0) (mC (.int 2)))) mNo) [some (.r 0), some (.d (.int m)), x2, x3, x4, x5, x6] [bagC a b c ns] = .ok (.d (.lst (cutL (ns.map .int) (some c) none))) [bagC a b c ns] := rfl
  have hz : (cutL (ns.map D.int) (some c) none).length ≤ 1000 := by
    unfold cutL
    rw [List.length_take, List.length_drop, List.length_map]
    omega
  have e2 : (m2 addF (mSl (m2 ixF (mVar 0) (mC (.int 3))) (mSo (m2 ixF (mVar 0) (mC (.int 2)))) mNo) (mLst (mCons (mC (.int 0)) mNil))) [some (.r 0), some (.d (.int m)), x2, x3, x4, x5, x6] [bagC a b c ns] = .ok (.d (.lst (cutL (ns.map .int) (some c) none ++ [.int 0]))) [bagC a b c ns] := by
    refine m2_ok e1 (y := .d (.lst [.int 0])) rfl ?_
    show (if _ then _ else _) = _
    exact if_pos (Nat.le_of_lt (Nat.lt_of_le_of_lt (Nat.add_le_add_right hz 1) (by decide : 1000 + 1 < sizeLine)))
  obtain ⟨d, hd⟩ : ∃ d, (cutL (ns.map D.int) (some c) none ++ [D.int 0])[0]? = some d := ⟨_, List.getElem?_eq_getElem (by simp)⟩
  have hm := List.mem_of_getElem? hd
  obtain ⟨z, rfl⟩ := toInt hm fun x hx => by
    have := List.mem_of_mem_drop (List.mem_of_mem_take hx)
    obtain ⟨n, _, rfl⟩ := List.mem_map.mp this
    exact ⟨n, rfl⟩
  refine ⟨z, m2_ok e2 (y := .d (.int 0)) rfl ?_⟩
  show atI _ 0 = _
  unfold atI ixN
  rw [if_pos (by decide), if_pos (by simp <;> omega)]
  exact hd

theorem intF_ok {C : Int → Int → Prop} [∀ i j, Decidable (C i j)] {f : Int → Int → Int} {hs : Hs} {i j : Int} (h : C i j) : intF C f hs (.d (.int i)) (.d (.int j)) = some (.int (f i j)) := if_pos h
theorem mulF_ok {hs : Hs} {i j : Int} (h : CMul i j) : mulF hs (.d (.int i)) (.d (.int j)) = some (.int (i * j)) := if_pos h
theorem setI_ok {ρ : Env'} {hs hs1 hs2 hs3 hs4 : Hs} {x y z : SV} {a b c : ME} (h1 : a ρ hs = .ok x hs1) (h2 : b ρ hs1 = .ok y hs2) (h3 : c ρ hs2 = .ok z hs3) (h4 : setF hs3 y z x = some hs4) : mSetI a b c ρ hs = .nx ρ hs4 := by
  simp only [mSetI, h1, h2, h3, h4, Out.bindS]
theorem int_ok {ρ : Env'} {hs hs1 : Hs} {i : Int} {a : ME} (h : a ρ hs = .ok (.d (.int i)) hs1) : mBf intFn (mCons a mNil) ρ hs = .ok (.d (.int i)) hs1 := by
  simp only [mBf, mCons, mNil, h, Out.bind, intFn, ofO]
theorem small_mul {i j : Int} (h : -(2 ^ 64) < j ∧ j < 2 ^ 64) : CMul i j := .inr h
theorem gt_true {hs : Hs} {i j : Int} (h : i > j) : gtF hs (.d (.int i)) (.d (.int j)) = some (.bl true) := by
  show some (D.bl (decide (i > j))) = _
  rw [decide_eq_true h]
theorem ge_true {hs : Hs} {i j : Int} (h : i ≥ j) : geF hs (.d (.int i)) (.d (.int j)) = some (.bl true) := by
  show some (D.bl (decide (i ≥ j))) = _
  rw [decide_eq_true h]
theorem ge_false {hs : Hs} {i j : Int} (h : ¬ i ≥ j) : geF hs (.d (.int i)) (.d (.int j)) = some (.bl false) := by
  show some (D.bl (decide (i ≥ j))) = _
  rw [decide_eq_false h]
theorem eq_false {hs : Hs} {i j : Int} (h : ¬ i = j) : eqF false hs (.d (.int i)) (.d (.int j)) = some (.bl false) := by
  rw [eqF_int]
  simp [h]
set_option maxHeartbeats 4000000 in
/-- what comes behind the first test -/
theorem take_main (m : Int) (ns : List Int) (hm : 0 < m) (hm2 : m ≤ 1000000) : ∀ (a b c : Int) (x2 x3 : Option SV), 0 ≤ a → ∃ v a', (mSeq (mIfS (mB (m2 gtF (m2 ixF (mVar 0) (mC (.int 0))) (mC (.int 0)))) (mSeq (mSet 4 (m2 modF (mBf intFn (mCons (m2 ixF (mVar 0) (mC (.int 0))) mNil)) (mVar 1)))
      (mSeq (mSetI (m2 fdivF (mBf intFn (mCons (m2 ixF (mVar 0) (mC (.int 0))) mNil)) (mVar 1)) (mVar 0) (mC (.int 0)))
      (mRet (mVar 4)))) mSkip)
      (mSeq (mSet 5 (m2 modF (mBf intFn (mCons (m2 mulF (m2 addF (m2 ixF (mVar 0) (mC (.int 1))) (mC (.int 1))) (mC (.int 39373))) mNil)) (mC (.int 1000000007))))
      (mSeq (mSet 6 (m2 modF (mBf intFn (mCons (m2 mulF (m2 modF (mBf intFn (mCons (m2 mulF (mVar 5) (mVar 5)) mNil)) (mC (.int 998244353))) (mC (.int 30011))) mNil)) (mC (.int 998244353))))
      (mRet (m2 modF (mBf intFn (mCons (m2 fdivF (mVar 6) (mC (.int 7))) mNil)) (mVar 1)))))) [some (.r 0), some (.d (.int m)), x2, x3, none, none, none] [bagC a b c ns] = .rt (.d (.int v)) [bagC a' b c ns] ∧ 0 ≤ v ∧ v < m ∧ 0 ≤ a' := by
  intro a b c x2 x3 ha
  by_cases h : a > 0
  · refine ⟨a % m, a / m, ?_, Int.emod_nonneg _ (by omega), Int.emod_lt_of_pos _ hm, Int.ediv_nonneg ha (by omega)⟩
    refine seq_rt ?_
    refine Eq.trans (if_true (hs1 := [bagC a b c ns]) (b_ok (m2_ok (x := .d (.int a)) (y := .d (.int 0)) rfl rfl (gt_true h)))) ?_
    refine Eq.trans (seq_nx (set_ok (m2_ok (int_ok (i := a) rfl) (y := .d (.int m)) rfl (intF_ok hm)))) ?_
    refine Eq.trans (seq_nx (setI_ok (hs4 := [bagC (a / m) b c ns]) (m2_ok (int_ok (i := a) rfl) (y := .d (.int m)) rfl (intF_ok ⟨hm, by omega⟩)) rfl rfl rfl)) ?_
    rfl
  · obtain rfl : a = 0 := by omega
    refine ⟨(((b + 1) * 39373 % 1000000007) * ((b + 1) * 39373 % 1000000007) % 998244353 * 30011 % 998244353 / 7) % m, 0, ?_, Int.emod_nonneg _ (Int.ne_of_gt hm), Int.emod_lt_of_pos _ hm, Int.le_refl 0⟩
    refine Eq.trans (seq_nx (if_false (hs1 := [bagC 0 b c ns]) (b_ok (m2_ok (x := .d (.int 0)) (y := .d (.int 0)) rfl rfl rfl)))) ?_
    · rw [seq_nx (set_ok (m2_ok (int_ok (m2_ok (m2_ok (x := .d (.int b)) (y := .d (.int 1)) rfl rfl rfl) (y := .d (.int 39373)) rfl (mulF_ok (small_mul (by decide))))) (y := .d (.int 1000000007)) rfl (intF_ok (by decide))))]
      have hb : 0 ≤ (b + 1) * 39373 % 1000000007 ∧ (b + 1) * 39373 % 1000000007 < 1000000007 := ⟨Int.emod_nonneg _ (by decide), Int.emod_lt_of_pos _ (by decide)⟩
      generalize (b + 1) * 39373 % 1000000007 = q at hb
      refine Eq.trans (seq_nx (set_ok (m2_ok (int_ok (m2_ok (m2_ok (int_ok (m2_ok (x := .d (.int q)) (y := .d (.int q)) rfl rfl (mulF_ok (small_mul ⟨by omega, by omega⟩)))) (y := .d (.int 998244353)) rfl (intF_ok (by decide))) (y := .d (.int 30011)) rfl (mulF_ok (small_mul (by decide))))) (y := .d (.int 998244353)) rfl (intF_ok (by decide))))) ?_
      exact ret_ok (m2_ok (int_ok (m2_ok (x := .d (.int _)) (y := .d (.int 7)) rfl rfl (intF_ok ⟨by decide, by decide⟩))) (y := .d (.int m)) rfl (intF_ok hm))
set_option maxHeartbeats 4000000 in
theorem take_ok (a b c m : Int) (ns : List Int) (hl : ns.length ≤ 1000) (ha : 0 ≤ a) (hm : 0 < m) (hm2 : m ≤ 1000000) : ∃ v a' b' c', f__law_take [.r 0, .d (.int m)] [bagC a b c ns] = .ok (.int v) [bagC a' b' c' ns] ∧ 0 ≤ v ∧ v < m ∧ 0 ≤ a' := by
  have fin : ∀ (o : OutS) (v a' b' c' : Int), o = .rt (.d (.int v)) [bagC a' b' c' ns] → (match o with
      | .rt d hs' => finish 1 d hs'
      | .nx _ hs' => .ok .non (hs'.take 1)
      | .exc c ns ws _ hs' => .exc c ns ws (hs'.take 1)
      | _ => .bad : Out D) = .ok (.int v) [bagC a' b' c' ns] := by
    rintro _ v a' b' c' rfl
    rfl
  by_cases h0 : a = 0
  · subst h0
    obtain ⟨z, hz⟩ := cell_ok 0 b c m ns hl none none none none none
    obtain ⟨a1, ha1, e1⟩ : ∃ a1 : Int, 0 ≤ a1 ∧ (mIfS (mB (m2 geF (mVar 2) (m2 powF (mC (.int 10)) (mC (.int 18))))) (mSetI (mVar 2) (mVar 0) (mC (.int 0))) mSkip) [some (.r 0), some (.d (.int m)), some (.d (.int z)), none, none, none, none] [bagC 0 b (c + 1) ns] = .nx [some (.r 0), some (.d (.int m)), some (.d (.int z)), none, none, none, none] [bagC a1 b (c + 1) ns] := by
      by_cases h : z ≥ 10 ^ 18
      · refine ⟨z, by omega, ?_⟩
        refine Eq.trans (if_true (hs1 := [bagC 0 b (c + 1) ns]) (b_ok (m2_ok (x := .d (.int z)) (y := .d (.int (10 ^ 18))) rfl rfl (ge_true h)))) ?_
        rfl
      · refine ⟨0, Int.le_refl 0, ?_⟩
        refine Eq.trans (if_false (hs1 := [bagC 0 b (c + 1) ns]) (b_ok (m2_ok (x := .d (.int z)) (y := .d (.int (10 ^ 18))) rfl rfl (ge_false h)))) ?_
        rfl
    obtain ⟨v, a', q1, q2, q3, q4⟩ := take_main m ns hm hm2 a1 ((b * 48271 + z % 2147483647 + 7919 * (c + 1)) % 2147483647) (c + 1) (some (.d (.int z))) (some (.d (.int (b * 48271 + z % 2147483647 + 7919 * (c + 1))))) ha1
    refine ⟨v, a', (b * 48271 + z % 2147483647 + 7919 * (c + 1)) % 2147483647, c + 1, fin _ v a' _ _ ?_, q2, q3, q4⟩
    show b__law_take [some (.r 0), some (.d (.int m)), none, none, none, none, none] [bagC 0 b c ns] = _
    unfold b__law_take
    refine Eq.trans (seq_nx (Eq.trans (if_true (hs1 := [bagC 0 b c ns]) (b_ok (m2_ok (x := .d (.int 0)) (y := .d (.int 0)) rfl rfl rfl))) ?_)) q1
    refine Eq.trans (seq_nx (set_ok hz)) ?_
    refine Eq.trans (seq_nx (ρ1 := [some (.r 0), some (.d (.int m)), some (.d (.int z)), none, none, none, none]) (hs1 := [bagC 0 b (c + 1) ns]) rfl) ?_
    refine Eq.trans (seq_nx e1) ?_
    refine Eq.trans (seq_nx (set_ok (m2_ok (m2_ok (m2_ok (x := .d (.int b)) (y := .d (.int 48271)) rfl rfl (mulF_ok (small_mul (by decide)))) (m2_ok (int_ok (i := z) rfl) (y := .d (.int 2147483647)) rfl (intF_ok (by decide))) rfl) (m2_ok (x := .d (.int 7919)) (y := .d (.int (c + 1))) rfl rfl (mulF_ok (.inl (by decide)))) rfl))) ?_
    exact setI_ok (m2_ok (int_ok (i := b * 48271 + z % 2147483647 + 7919 * (c + 1)) rfl) (y := .d (.int 2147483647)) rfl (intF_ok (by decide))) rfl rfl rfl
  · obtain ⟨v, a', q1, q2, q3, q4⟩ := take_main m ns hm hm2 a b c none none ha
    refine ⟨v, a', b, c, fin _ v a' _ _ ?_, q2, q3, q4⟩
    show b__law_take [some (.r 0), some (.d (.int m)), none, none, none, none, none] [bagC a b c ns] = _
    unfold b__law_take
    exact Eq.trans (seq_nx (Eq.trans (if_false (hs1 := [bagC a b c ns]) (b_ok (m2_ok (x := .d (.int a)) (y := .d (.int 0)) rfl rfl (eq_false h0)))) rfl)) q1

/-! ### calls: the bag alone, data alone -/
theorem callM_bag2 {f : FM} {c c' : Cell} {x : D} {d : D} (h : f [.r 0, .d x] [c] = .ok d [c']) : callM f [.r 0, .d x] [c] = .ok d [c'] := by
  show (match f [.r 0, .d x] [c] with
    | .ok d cs' => if cs'.length = 1 then .ok d (setAll [c] [0] cs') else .bad
    | .exc e ns ws cs' => if cs'.length = 1 then .exc e ns ws (setAll [c] [0] cs') else .bad
    | .bad => .bad : Out D) = _
  rw [h]
  rfl
theorem callM_bag1 {f : FM} {c c' : Cell} {d : D} (h : f [.r 0] [c] = .ok d [c']) : callM f [.r 0] [c] = .ok d [c'] := by
  show (match f [.r 0] [c] with
    | .ok d cs' => if cs'.length = 1 then .ok d (setAll [c] [0] cs') else .bad
    | .exc e ns ws cs' => if cs'.length = 1 then .exc e ns ws (setAll [c] [0] cs') else .bad
    | .bad => .bad : Out D) = _
  rw [h]
  rfl
theorem call_ok {f : FM} {m : MA} {ρ : Env'} {hs hs1 hs2 : Hs} {ds : List SV} {d : D} (h : m ρ hs = .ok ds hs1) (h2 : callM f ds hs1 = .ok d hs2) : mCall f m ρ hs = .ok (.d d) hs2 := by
  simp only [mCall, h, Out.bind, h2]
/-- one of the things -/
theorem some_ok (a b c : Int) (ns : List Int) (hl : ns.length ≤ 1000) (ha : 0 ≤ a) (things : List D) (h0 : things ≠ []) (h1 : things.length ≤ 1000000) :
    ∃ d a' b' c', d ∈ things ∧ f__law_some [.r 0, .d (.lst things)] [bagC a b c ns] = .ok d [bagC a' b' c' ns] ∧ 0 ≤ a' := by
  have hp : 0 < things.length := List.length_pos_iff.mpr h0
  obtain ⟨v, a', b', c', e, v0, v1, q⟩ := take_ok a b c things.length ns hl ha (by omega) (by omega)
  have hv : v.toNat < things.length := by omega
  refine ⟨things[v.toNat], a', b', c', List.getElem_mem hv, ?_, q⟩
  have e2 : (m2 ixF (mVar 1) (mCall f__law_take (mCons (mVar 0) (mCons (mBf lenF (mCons (mVar 1) mNil)) mNil)))) [some (.r 0), some (.d (.lst things))] [bagC a b c ns] = .ok (.d things[v.toNat]) [bagC a' b' c' ns] := by
    refine m2_ok (x := .d (.lst things)) rfl (call_ok (ds := [.r 0, .d (.int things.length)]) rfl (callM_bag2 e)) ?_
    show atI things v = _
    unfold atI ixN
    rw [if_pos v0, if_pos v1]
    exact List.getElem?_eq_getElem hv
  show (match (mRet _ : MS) [some (.r 0), some (.d (.lst things))] [bagC a b c ns] with
    | .rt d hs' => finish 1 d hs'
    | .nx _ hs' => .ok .non (hs'.take 1)
    | .exc c ns ws _ hs' => .exc c ns ws (hs'.take 1)
    | _ => .bad : Out D) = _
  rw [ret_ok e2]
  rfl
/-! ### comprehensions -/
theorem lcL_map {t : Tg} {tt : MT} {te : ME} {ρw : Env'} {hs : Hs} {g : D → D} : ∀ (items acc : List D), (∀ x ∈ items, ∃ ρ1, mTg t (.d x) ρw = some ρ1 ∧ tt ρ1 hs = .ok true hs ∧ te ρ1 hs = .ok (.d (g x)) hs) → acc.length + items.length ≤ 16777216 →
    mLcL t tt te ρw items acc hs = .ok (acc ++ items.map g) hs
  | [], acc, _, _ => by simp [mLcL]
  | x :: xs, acc, h, hl => by
    obtain ⟨ρ1, h1, h2, h3⟩ := h x List.mem_cons_self
    have hz : acc.length < sizeLine := Nat.lt_of_lt_of_le (by simp at hl; omega : acc.length < 16777216) (by decide)
    simp only [mLcL, h1, h2, h3, Out.bind0, if_pos, hz]
    rw [lcL_map xs (acc ++ [g x]) (fun y hy => h y (List.mem_cons_of_mem _ hy)) (by simp at hl ⊢; omega)]
    simp
/-- the law's bag -/
theorem bag_ok (ns : List Int) (hn : ns.length ≤ 63) : ∃ ms : List Int, ms.length ≤ 63 ∧ (∀ m ∈ ms, 0 ≤ m) ∧ f__law_bag [.d (.scr (ns.map .int))] [] = .ok (bagC 0 1234567891 0 ms) [] := by
  refine ⟨ns.map fun i => if i < 0 then -i else i, by simpa using hn, fun m hm => ?_, ?_⟩
  · obtain ⟨i, _, rfl⟩ := List.mem_map.mp hm
    split <;> omega
  · have e0 : cutL (ns.map D.int) none (some 63) = ns.map D.int := by
      unfold cutL
      rw [HT.sIx_none, show (63 : Int) = ((63 : Nat) : Int) from rfl, HT.sIx_nat, List.length_map, List.drop_zero, Nat.sub_zero]
      exact List.take_of_length_le (by rw [List.length_map]; omega)
    have e1 : (mLcE [1] (.nm 1) (mItL (mSl (mVar 0) mNo (mSo (mC (.int 63))))) mYes (mBf absF (mCons (mVar 1) mNil))) [some (.d (.scr (ns.map .int))), none] [] = .ok (.d (.lst ((ns.map fun i => if i < 0 then -i else i).map .int))) [] := by
      show ((mLcL (.nm 1) mYes (mBf absF (mCons (mVar 1) mNil)) [some (.d (.scr (ns.map .int))), none] (cutL (ns.map D.int) none (some 63)) [] []).bind fun xs hs1 => .ok (SV.d (.lst xs)) hs1) = _
      rw [e0, lcL_map (g := fun x => match x with | .int i => .int (if i < 0 then -i else i) | x => x) _ _ (fun x hx => ?_) (by simp; omega)]
      · simp [Out.bind, List.map_map, Function.comp_def]
      · obtain ⟨i, _, rfl⟩ := List.mem_map.mp hx
        exact ⟨_, rfl, rfl, rfl⟩
    have e2 : (mCons (mC (.int 0)) (mCons (mC (.int 1234567891)) (mCons (mC (.int 0)) (mCons (mLcE [1] (.nm 1) (mItL (mSl (mVar 0) mNo (mSo (mC (.int 63))))) mYes (mBf absF (mCons (mVar 1) mNil))) mNil)))) [some (.d (.scr (ns.map .int))), none] [] = .ok [.d (.int 0), .d (.int 1234567891), .d (.int 0), .d (.lst ((ns.map fun i => if i < 0 then -i else i).map .int))] [] := by
      simp only [mCons, e1, Out.bind, mC, mNil]
    show (match b__law_bag [some (.d (.scr (ns.map .int))), none] [] with
      | .rt d hs' => finishN 0 d hs'
      | .exc c ns ws _ hs' => .exc c ns ws (hs'.take 0)
      | _ => .bad : Out Cell) = _
    unfold b__law_bag mRetNewL
    rw [e2]
    rfl
end Py
end L2

set_option Elab.async false
set_option linter.all false
set_option maxRecDepth 100000
set_option maxHeartbeats 2000000
/-! An own exception's __init__ that says super().__init__(..) first. -/
namespace L2
namespace Py
open PySem PySem.Spec PyProof.Rows PySem.W NdefX

abbrev clsS : Str := "__class__"
/-- what the written part says of a class C over ValueError (through others) and of its __init__ at f -/
structure SupC (P : Program) (K : Frag) (C f : Addr) (F : NF) (doc pm ct : Value) (ps : List Str) : Prop where
  T : OexC K C
  lk : ∃ oc od osl, K.lookup f = some ⟨oc, od, .func (F.fd doc pm ct), osl⟩
  hcd : codeIn K (.ref F.c) F.qual = true
  S : NScope (ps ++ [clsS]) ps [clsS] F.scope
  hks : F.scope.names.lookup ("super" : Str) = some .globalImplicit
  self : ∃ ar qs, (F.params.posonlyargs ++ F.params.args).head? = some ar ∧ ps = ar.arg :: qs
  code : ∃ ccl cdd vs ccs file tf, K.lookup F.c = some ⟨ccl, cdd, .fields vs, ccs⟩ ∧ vs[2]? = some (.str file tf) ∧ ((P.main.file : Str) == file) = true
  htop : (P.main.scope.names.lookup ("super" : Str)).isSome = false
  cell : ∃ cc cl cld csl, F.cl = [(clsS, cc)] ∧ K.lookup cc = some ⟨cl, cld, .cell (some (.ref C)), csl⟩
  cls : ∃ cd, clsIn K C = some cd
  sub : mroIn K C (.ref C) = some true
  hsuper : nsIn K mainGlobals "super" = some none
  hm : ks_superIn K C C "__init__" = some (some (.builtin "ValueError.__init__"))
  hB : subIn K (.ref C) (.type "ValueError") = some true
  hop : nsIn K cStatics "thirdparty.any" = some none

section
variable {P : Program} {w : World} {K : Frag} {mg : Str → Option Value} {base : Heap} {C f : Addr} {F : NF} {doc pm ct : Value} {ps : List Str} {t : TS} {ta : TA} {k : Nat}
/-- what is called: the built-in's __init__, bound to the exception in the making -/
theorem call_mw {X : Cx} {pins : List (Addr × Obj)} {σ : St} {H : Hp} {s : Shared} {a C u : Addr} {us : List Value} {A : Around} {E : Value → Shared → Prop} {Q : Value → Shared → Prop} (T : OexC X.K C) (I : Inv X pins σ H s) (e : H a = some (exo a C none)) (hu : s.heap.get? u = some (kxs_mw "ValueError.__init__" a)) (hl : us.length ≤ sizeLine)
    (h : ∀ s', Inv X pins σ H s' → Q .none s') : wpAny (model X.prog X.w) A (call (.ref u) us) Q E s := by
  obtain ⟨nm, q, N, bs, bm, sn, sub, ab, col, dd, k0, k1, k2, k3, k5, hC, hbm⟩ := T.cls
  obtain ⟨t1, ho⟩ := exo_at I.hok e
  obtain ⟨hp, g, d, tk, os⟩ := s
  have FB := F.excBase_ValueError
  refine wpAny_call (codeAny_of_tree ?_)
  show wpAny _ A.in1 (callAny (.ref u) ⟨us, []⟩) _ _ _
  simp only [callAny]
  refine wpAny_bind (wpAny_load hu ?_)
  simp only [kxs_mw, show (Value.type "method-wrapper" == Value.type "method" || Value.type "method-wrapper" == Value.type "builtin_function_or_method" || Value.type "method-wrapper" == Value.type "method-wrapper") = true by decide, _root_.if_true]
  refine KFB.if_so (by decide) ?_
  refine wpAny_bind (check_bound_init FB.toExcCallFacts (I.kIn _ _ hC) ho rfl ?_)
  refine wpAny_bind (wpAny_pure (wpAny_pure ?_))
  refine ⟨plainId_quiet FB.init.plain _, codeAny_builtin FB.initEntry ?_⟩
  refine exc_init_tree (cls := .ref C) (t0 := t1) (dv := none) (c2 := .none) (c3 := .none) (b4 := .bool false) ho hl fun h' k hx _ => ?_
  have J := I.write (t' := tk) (x := a) (e := a) (o := exo a C none) (by rw [e]; exact True.intro) (.inl rfl) k ⟨_, hx⟩ (exo_ok hx)
  have eu : upd H a (exo a C none) = H := by
    funext b
    by_cases hb : b = a
    · rw [hb, upd_same, e]
    · rw [upd_ne hb]
  rw [eu] at J
  exact h _ J
/-- super().__init__(..) of a method whose object is an exception in the making -/
theorem sup_stmt {X : Cx} {σ : St} {H : Hp} {s : Shared} {a C f cda cc : Addr} {fd : FuncData} {oc ccl cl : Value} {od cdd cld : Option Addr} {osl ccs csl : Array (Option Value)} {ar : Arg} {vs : Array Value} {file : Str} {tf : Tok} {cd : ClassData} {m : Str → Option Value} {body : List Stmt} {ta : TA}
    {p0 p1 p2 p3 p4 : Pos} {e : Expr} {es : List Expr} {pl : Sem Bool} (T : OexC X.K C) (I : Inv X [] σ H s) (ea : H a = some (exo a C none)) (hk : X.env.scope.kind = .function)
    (hks : X.env.kindOf "super" = some .globalImplicit) (hkc : X.env.kindOf "__class__" = some .free) (hka : X.env.kindOf ar.arg = some .local) (hfu : X.env.func = some f) (hf : X.K.lookup f = some ⟨oc, od, .func fd, osl⟩) (hp : (fd.params.posonlyargs ++ fd.params.args).head? = some ar)
    (hco : X.env.code = .ref cda) (hcode : X.K.lookup cda = some ⟨ccl, cdd, .fields vs, ccs⟩) (hvs : vs[2]? = some (.str file tf)) (hfile : ((X.prog.main.file : Str) == file) = true) (htop : (X.prog.main.scope.names.lookup ("super" : Str)).isSome = false)
    (hns : s.heap.Ns X.env.locals m) (hm : m ar.arg = some (.ref a)) (hcl : X.env.cells.lookup clsS = some cc) (hcell : X.K.lookup cc = some ⟨cl, cld, .cell (some (.ref C)), csl⟩) (hD : clsIn X.K C = some cd) (hsub : mroIn X.K C (.ref C) = some true) (hsuper : X.mg "super" = none)
    (hal : ks_superIn X.K C C "__init__" = some (some (.builtin "ValueError.__init__"))) (hB : subIn X.K (.ref C) (.type "ValueError") = some true) (hop : nsIn X.K cStatics "thirdparty.any" = some none)
    (ha : PA X (e :: es) ta) (hta : ∀ R : List V → Hp → Prop, (∀ us : List V, us.length ≤ 1000 → R us H) → ta σ H R) (hi : interactive X.env = false)
    (hst : starEach (e :: es) X.env = (false, eval e X.env) :: starEach es X.env) (hpl : (backTo p3 (starEach es X.env)).any (·.1) = false)
    (hsw : swapsWith (.Call (.Attribute (.Call (.Name "super" p0) [] [] p1) "__init__" p2) (e :: es) [] p3) none p4.line X.env = pure false)
    (hev : eval (.Call (.Attribute (.Call (.Name "super" p0) [] [] p1) "__init__" p2) (e :: es) [] p3) X.env = (do
      let ov ← attributeBase (.Call (.Name "super" p0) [] [] p1) "__init__" X.env (eval (.Call (.Name "super" p0) [] [] p1) X.env)
      standAt p2.atName
      let (f, first) ← holding [ov] (getMethod ov "__init__" pl)
      callWith p3 f first (backTo p3 (starEach (e :: es) X.env)) [])) :
    _root_.PySem.wpAt (model X.prog X.w) X.A (.func body X.env) (exec (.Expr (.Call (.Attribute (.Call (.Name "super" p0) [] [] p1) "__init__" p2) (e :: es) [] p3) p4) X.env)
      (fun fl s' => fl = .next ∧ ∃ pins, Inv X pins σ H s') X.xe s := by
  have KX := I.kIn
  obtain ⟨mb, hmb, hbb⟩ := I.mod.blt
  refine ks_wpAt_Expr_any (ks_wpAt_MethodCall ?_ hev) hi hsw
  refine ks_wpAt_super_base hks hkc rfl hfu (KX _ _ hf) rfl hp hco (KX _ _ hcode) rfl hvs hfile htop ?_
  refine ks_loadName_global hk hks (PySem.Calls.loadGlobal_builtin (by rw [I.ok.glob]; exact I.mod.glob.keeps I.bk) hsuper (by rw [I.ok.blt]; exact hmb.keeps I.bk) (v := .type "super") ((hbb _ (by decide)).trans (by decide +kernel)) ⟨rfl, ?_⟩)
  refine wpAny_loadName_free hk hkc hcl ⟨_, KX _ _ hcell, rfl⟩ ?_
  refine wpAny_loadName_local hk hka hns hm ?_
  obtain ⟨oD, hD1, hD2⟩ : ∃ oD, s.heap.get? C = some oD ∧ oD.data = .cls cd := by
    unfold clsIn at hD
    split at hD
    · rename_i c d cd' sl ho
      cases hD
      exact ⟨_, KX _ _ ho, rfl⟩
    · cases hD
  refine ks_wpAny_isType_cls hD1 hD2 ⟨rfl, ?_⟩
  obtain ⟨t1, ho⟩ := exo_at I.hok ea
  have hne : a ≠ C := fun z => by
    rw [z, hD1] at ho
    have z2 := Option.some.inj ho
    rw [z2] at hD2
    cases hD2
  obtain ⟨hh, g, d, tk, os⟩ := s
  refine ks_wpAny_call_super hD1 hD2 ho rfl (fun c z => by cases z) (looks_mroIn KX hsub) (fun h2 e2 k2 => ?_)
  have I2 : Inv X [] σ H ⟨h2, g, d, tk, os⟩ := I.kept (t' := tk) k2
  have KX2 := I2.kIn
  have hI : Looks (model X.prog X.w) h2 (isInstance (.ref a) (.type "ValueError")) true := (show InstAt h2 a _ C none from ⟨k2 _ _ ho, rfl, rfl, trivial⟩).type.andThen (looks_subIn KX2 hB)
  unfold ks_superIn at hal
  rw [hD] at hal
  refine kxs_getMethod kxs_ValueError e2 (looks_opaque KX2 hop) (l₀ := cd.mro) (fun A Q E s k q => wpAny_bind ((looks_clsIn KX2 hD) A _ E s k (wpAny_pure q))) rfl KX2 hal hI hne rfl ?_
  -- the arguments
  have hu : (h2.push (kxs_mw "ValueError.__init__" a)).get? h2.objs.size = some (kxs_mw "ValueError.__init__" a) := Heap.get?_push_at rfl rfl
  have k3 : ∀ b o, h2.get? b = some o → (h2.push (kxs_mw "ValueError.__init__" a)).get? b = some o := fun b o e => Heap.get?_push_of_some _ e
  have I3 : Inv X [] σ H ⟨h2.push (kxs_mw "ValueError.__init__" a), g, d, tk + 1, os⟩ := I2.kept (t' := tk + 1) k3
  have I4 : Inv X [(h2.objs.size, kxs_mw "ValueError.__init__" a)] σ H ⟨h2.push (kxs_mw "ValueError.__init__" a), g, d, tk + 1, os⟩ := I3.pins_of fun p hp => by
    obtain rfl : p = (h2.objs.size, kxs_mw "ValueError.__init__" a) := by simpa using hp
    refine ⟨hu, I2.hok.fresh (Nat.le_refl _), fun z => ?_, fun z => ?_, fun v z => by cases z⟩
    · obtain ⟨m2, ⟨o, _, _, ho2, _⟩, _⟩ := I2.loc
      have := Heap.lt_size ho2
      rw [← z] at this
      exact absurd this (Nat.lt_irrefl _)
    · obtain ⟨_, o, ho2, _⟩ := I2.ok.funs.mem z
      obtain ⟨o', ho3⟩ := I2.base.there _ o ho2 fun z2 => I2.ok.exfs _ z2 z
      exact absurd (Heap.lt_size ho3) (Nat.lt_irrefl _)
  show wpAny (model X.prog X.w) X.A (callWith p3 (.ref h2.objs.size) [] (backTo p3 (starEach (e :: es) X.env)) []) _ _ _
  have hA : wpAny (model X.prog X.w) X.A (spliced (backTo p3 (starEach (e :: es) X.env))) (fun us s3 => KxsAt "ValueError.__init__" h2.objs.size a s3.heap ∧ wpAny (model X.prog X.w) X.A (call (.ref h2.objs.size) us) (fun _ s' => Flow.next = Flow.next ∧ ∃ pins, Inv X pins σ H s') X.xe s3) X.xe ⟨h2.push (kxs_mw "ValueError.__init__" a), g, d, tk + 1, os⟩ := by
    refine thn (ha.run p3 _ _ σ H _ I4 (hta (fun us H1 => us.length ≤ 1000 ∧ H1 = H) fun us hu => ⟨hu, rfl⟩)) fun us s3 hh => ?_
    obtain ⟨vs2, H1, I5, r5, hl5, rfl⟩ := hh
    have hu5 := (I5.pin (h2.objs.size, kxs_mw "ValueError.__init__" a) (by simp)).1
    refine ⟨hu5, ?_⟩
    have hlus : us.length ≤ sizeLine := by
      rw [← Paired.length r5, sizeLine_eq]
      omega
    exact call_mw T I5 ea hu5 hlus fun s' J => ⟨rfl, _, J⟩
  rw [hst] at hA ⊢
  refine kxs_callWith (i := "ValueError.__init__") (x := a) (by show (false || (backTo p3 (starEach es X.env)).any (·.1)) = false; rw [hpl]; rfl) ?_
  exact PySem.Calls.evalArgs_plain hA
theorem sup_fn (Z : SupC P K C f F doc pm ct ps) (mgs : mg "super" = none) {p0 p1 p2 p3 p4 : Pos} {e : Expr} {es : List Expr} {rest : List Stmt}
    (hbody : F.body = .Expr (.Call (.Attribute (.Call (.Name "super" p0) [] [] p1) "__init__" p2) (e :: es) [] p3) p4 :: rest)
    (hrest : ∀ (A : Around) (outer : List Env) (s : Shared) (H : Hp) (E : XK), PSs (ncx (L2.CX P w) P w K mg base (ps ++ [clsS]) F f A outer s H E) rest t)
    (hargs : ∀ (A : Around) (outer : List Env) (s : Shared) (H : Hp) (E : XK), PA (ncx (L2.CX P w) P w K mg base (ps ++ [clsS]) F f A outer s H E) (e :: es) ta)
    (hta : ∀ (a : Addr) (ws : List V) (H : Hp) (R : List V → Hp → Prop), ws.length + 1 = ps.length → R ws H → ta (startF (ps ++ [clsS]) (.ref a :: ws) [some (.ref C)]) H R)
    (hst : ∀ env : Env, starEach (e :: es) env = (false, eval e env) :: starEach es env) (hpl : ∀ env : Env, (backTo p3 (starEach es env)).any (·.1) = false)
    (hsw : ∀ env : Env, swapsWith (.Call (.Attribute (.Call (.Name "super" p0) [] [] p1) "__init__" p2) (e :: es) [] p3) none p4.line env = pure false)
    (hev : ∃ pl : Sem Bool, ∀ env : Env, eval (.Call (.Attribute (.Call (.Name "super" p0) [] [] p1) "__init__" p2) (e :: es) [] p3) env = (do
      let ov ← attributeBase (.Call (.Name "super" p0) [] [] p1) "__init__" env (eval (.Call (.Name "super" p0) [] [] p1) env)
      standAt p2.atName
      let (f, first) ← holding [ov] (getMethod ov "__init__" pl)
      callWith p3 f first (backTo p3 (starEach (e :: es) env)) [])) :
    FnOk P w K mg base (L2.CX P w) (k + 1) f (F.fd doc pm ct) ps
      (fun vs H Q E => ∃ a ws, vs = .ref a :: ws ∧ ws.length + 1 = ps.length ∧ ws.length ≤ 1000 ∧ H a = some (exo a C none) ∧ t { nx := fun _ H' => Q .non H', rt := Q } (startF (ps ++ [clsS]) vs [some (.ref C)]) H) := by
  obtain ⟨oc, od, osl, lk⟩ := Z.lk
  obtain ⟨ar, qs, har, hps⟩ := Z.self
  obtain ⟨ccl, cdd, cvs, ccs, file, tf, hcode, hvs, hfile⟩ := Z.code
  obtain ⟨cc, cl, cld, csl, hcl, hcell⟩ := Z.cell
  obtain ⟨cd, hD⟩ := Z.cls
  obtain ⟨pl, hev⟩ := hev
  refine ⟨fun vs H Q E ⟨a, ws, e, hl, _⟩ => by rw [e]; exact hl, fun A outer s H args us vs Q E hr e0 hb r hsp => ?_⟩
  obtain ⟨a, ws, rfl, hl, hz, ea, ht⟩ := hsp
  have there : ∀ b o, base.get? b = some o → s.heap.get? b = some o := fun b o e => (e0.bs b o e).1
  have KX : K.In s.heap := e0.mod.kin.keeps there
  refine ks_codeAny_call_defAt hr.depth (KX _ _ lk) rfl (e0.mod.nolimit.keeps there) (codeRec_of KX Z.hcd) rfl hb Z.S.nocell (fun y hy => Z.S.par y.1 (List.of_mem_zip (show (y.1, y.2) ∈ _ from hy)).1) (fun h₁ hns hk => ?_) Z.S.co Z.S.gen Z.S.kind
  have CA : CellsAt F.cl [clsS] [some (.ref C)] s.heap H := by
    rw [hcl]
    have one : ∀ {y c}, List.lookup y [(clsS, cc)] = some c → y = clsS ∧ c = cc := fun {y c} q => by
      simp only [List.lookup] at q
      split at q
      · rename_i e1
        cases q
        exact ⟨eq_of_beq e1, rfl⟩
      · cases q
    refine ⟨rfl, fun y c q => ?_, fun y z c q1 q2 => ?_, fun i y q => ?_⟩
    · obtain ⟨_, rfl⟩ := one q
      exact ⟨(e0.bs _ _ (e0.mod.kin _ _ hcell)).2, _, _, KX _ _ hcell, rfl⟩
    · exact (one q1).1.trans (one q2).1.symm
    · match i, q with
      | 0, q =>
        cases q
        exact ⟨cc, rfl, fun v q2 => by cases q2; exact ⟨.ref C, rfl, _, KX _ _ hcell, rfl⟩⟩
      | i + 1, q => simp at q
  have I : Inv (ncx (L2.CX P w) P w K mg base (ps ++ [clsS]) F f A outer s H E) [] (startF (ps ++ [clsS]) (.ref a :: ws) [some (.ref C)]) H { s with heap := h₁, toks := s.toks + (ps.zip us).length } :=
    inv_startN Z.S hr.hd e0 hl r CA hns hk
  have hm0 : (ps.zip us).reverse.lookup ar.arg = some (.ref a) := by
    cases r with
    | cons h t =>
      obtain rfl := h
      have nd : ps.Nodup := by
        have := Z.S.nd
        exact (List.nodup_append.mp this).1
      exact zip_look (i := 0) nd (by rw [hps]; rfl) rfl
  have hka : F.scope.names.lookup ar.arg = some .local := Z.S.par _ (by rw [hps]; exact List.mem_cons_self)
  have hkc : F.scope.names.lookup clsS = some .free := Z.S.frk _ List.mem_cons_self
  rw [hbody]
  refine ks_wpAt_execs_cons (ks_wpAt_mono (sup_stmt (X := ncx (L2.CX P w) P w K mg base (ps ++ [clsS]) F f A outer s H E) (σ := startF (ps ++ [clsS]) (.ref a :: ws) [some (.ref C)]) (H := H) (a := a) (C := C) (f := f) (cda := F.c) (cc := cc) (pl := pl) Z.T I ea Z.S.kind Z.hks hkc hka rfl lk har rfl hcode hvs hfile Z.htop hns hm0 (by show List.lookup clsS F.cl = some cc; rw [hcl]; rfl) hcell hD Z.sub mgs Z.hm Z.hB Z.hop
    (hargs A outer s H E) (fun R h => hta a ws H R hl (h ws hz)) (by unfold interactive; rw [show (ncx (L2.CX P w) P w K mg base (ps ++ [clsS]) F f A outer s H E).env.scope.kind = .function from Z.S.kind]; rfl) (hst _) (hpl _) (hsw _) (hev _)) (fun fl s' hh => ?_) fun e s' z => z)
  obtain ⟨rfl, pins, J⟩ := hh
  refine wpAt_of_wpAny (wpAny_mono ((hrest A outer s H E).run pins s' _ H _ J ht) (fun fl s'' z => ?_) fun e s'' z => z)
  cases fl with
  | ret u => obtain ⟨v, σ', H', J, rv, q⟩ := z; exact ⟨v, H', J.os, J.bare, J.base, J.hok, rv, q⟩
  | next => obtain ⟨σ', H', J, q⟩ := z; exact ⟨.non, H', J.os, J.bare, J.base, J.hok, rfl, q⟩
  | brk => obtain ⟨_, _, _, q⟩ := z; exact q.elim
  | cont => obtain ⟨_, _, _, q⟩ := z; exact q.elim
end
end Py
end L2

set_option Elab.async false
set_option linter.all false
set_option maxRecDepth 100000
set_option maxHeartbeats 2000000
/-! Own exceptions held as values. -/
namespace L2
namespace Py
open PySem PySem.Spec PyProof.Rows

/-- at a: an exception of the class at C with these fields -/
def ExAt (H : Hp) (a C : Addr) (fs : List (Str × V)) : Prop := (fs = [] ∧ H a = some (ExO (.ref C) a)) ∨ ∃ d, H a = some (exo a C (some d)) ∧ H d = some (exd d fs)
section
variable {X : Cx} {p pos : Pos} {x : Str} {e : Expr} {es : List Expr} {ta : TA} {C fI : Addr} {k : Nat} {fd : FuncData} {ps : List Str} {sp : Sp}
/-- C(e, ..) as a value, C's own __init__ keeping sp -/
theorem pe_oexV (T : OexC X.K C) (iC : PySem.W.findIn X.K (.ref C) "__init__" = some (some (.ref fI))) (tI : PySem.W.typeIn X.K (.ref fI) = some (.type "function"))
    (F1 : FnOk X.prog X.w X.K X.mg X.base (L2.CX X.prog X.w) k fI fd ps sp) (hr : Room (k + 1) X.A) (hb : Binds X.K fd ps []) (hg : Gl X x) (hm : X.mg x = some (.ref C)) (ha : PA X (e :: es) ta)
    (hdb : (x == ("__debug__" : Str)) = false := by decide) (he : starEach (e :: es) X.env = (false, eval e X.env) :: starEach es X.env := by rfl) (hpl : (backTo pos (starEach es X.env)).any (·.1) = false := by rfl) :
    PE X (.Call (.Name x p) (e :: es) [] pos) (fun σ H Q => ta σ H fun vs H1 => vs.length ≤ 1000 ∧ ∀ a, H1 a = none → sp (.ref a :: vs) (upd H1 a (exo a C none)) (fun v H2 => v = .non ∧ Q (.ref a) H2) (fun _ _ _ => False)) := by
  refine ⟨fun pins s σ H Q I h => ?_⟩
  obtain ⟨nm, q, N, bs, bm, sn, sub, ab, col, dd, k0, k1, k2, k3, k5, hC, hbm⟩ := T.cls
  refine wpAny_Call_Name_kw (ld_glob I hg hm ?_ hdb)
  refine PySem.W.callWith_K (h₀ := X.base) I.ok.mod.kin T.kC (thn (ha.run pos pins s σ H _ I h) fun us s1 ⟨vs, H1, I1, r1, hz, q1⟩ => ⟨I1.kIn, ?_⟩) he hpl
  show wpAny _ _ (call (.ref C) us) _ _ _
  obtain ⟨hp, g, dr, tk, os⟩ := s1
  have hsz : hp.objs.size ≤ hp.objs.size + 1 := Nat.le_succ _
  have hq := q1 (hp.objs.size + 1) (I1.hok.fresh hsz)
  have kk : ∀ b o, hp.get? b = some o → ((hp.push (PySem.W.kdv_tup us)).push (PySem.HandSPX.excO C hp.objs.size)).get? b = some o := fun b o e => Heap.get?_push_of_some _ (Heap.get?_push_of_some _ e)
  have hget : ((hp.push (PySem.W.kdv_tup us)).push (PySem.HandSPX.excO C hp.objs.size)).get? (hp.objs.size + 1) = some (PySem.HandSPX.excO C hp.objs.size) := by heap_get
  have I2 : Inv X pins σ (upd H1 (hp.objs.size + 1) (exo (hp.objs.size + 1) C none)) ⟨(hp.push (PySem.W.kdv_tup us)).push (PySem.HandSPX.excO C hp.objs.size), g, dr, tk, os⟩ :=
    I1.laid (t' := tk) (a := hp.objs.size + 1) (o := exo (hp.objs.size + 1) C none) (h' := (hp.push (PySem.W.kdv_tup us)).push (PySem.HandSPX.excO C hp.objs.size)) kk hsz (exo_ok hget)
  have r2 : Vals (V.ref (hp.objs.size + 1) :: vs) (Value.ref (hp.objs.size + 1) :: us) := .cons rfl r1
  have hl : (Value.ref (hp.objs.size + 1) :: us ++ []).length = ps.length := by
    have e := r2.length
    rw [F1.len _ _ _ _ hq] at e
    simpa using e.symm
  have hus : us.length ≤ sizeLine := by
    rw [← Paired.length r1, sizeLine_eq]
    omega
  have hbb := hb ⟨(hp.push (PySem.W.kdv_tup us)).push (PySem.HandSPX.excO C hp.objs.size), g, dr, tk, os⟩ (Value.ref (hp.objs.size + 1) :: us) I2.kIn hl
  rw [List.append_nil] at hbb
  refine wpAny_call (PySem.HandSPX.call_own F.excBase_ValueError (fun Y => PySem.HandSPX.refsVE_contains Y bm hbm) (I1.kIn _ _ hC) (PySem.W.looks_findIn I1.kIn iC) (fun self => PySem.W.bind_fn I1.kIn self tI) hus
    (codeAny_mono (F1.run _ X.stack _ _ ⟨Value.ref (hp.objs.size + 1) :: us, []⟩ (Value.ref (hp.objs.size + 1) :: us) _ _ (fun _ _ _ => False) (hr.make C us []) (I2.env0.make C us []) hbb r2 hq) fun r s' hq' => ?_))
  match r, hq' with
  | .error er, hq' =>
    obtain ⟨_, _, _, _, _, _, _, _, _, _, _, z⟩ := hq'
    exact z.2.elim
  | .ok (.ret u), hq' =>
    obtain ⟨v, H2, os2, bare2, un2, hok2, rv, rfl, q2⟩ := hq'
    obtain ⟨h2, g2, d2, t2, os'⟩ := s'
    exact ⟨rv, .ref (hp.objs.size + 1), H2, I2.call' (ch := []) os2 un2 hok2 bare2 (fun b z => absurd z (by simp)), rfl, q2⟩
  | .ok .next, hq' => exact False.elim hq'
  | .ok .brk, hq' => exact False.elim hq'
  | .ok .cont, hq' => exact False.elim hq'
/-- C() as a value, no __init__ of the program's -/
theorem pe_oex0 {bmB : List Value} {B newId initId : String} (FB : ExcBaseFacts B newId initId bmB) (q : PySem.W.excIn X.K C bmB newId = true) (gC : X.mg x = some (.ref C)) (kC : PySem.W.keepIn X.K (.ref C) = true) (hg : Gl X x) (hdb : (x == ("__debug__" : Str)) = false := by decide) :
    PE X (.Call (.Name x p) [] [] pos) (fun σ H Q => ∀ a, H a = none → Q (.ref a) (upd H a (ExO (.ref C) a))) := by
  refine ⟨fun pins s σ H Q I h => ?_⟩
  refine wpAny_Call_Name_kw (ld_glob I hg gC ?_ hdb)
  refine PySem.W.callWith_K0 I.kIn kC ?_
  obtain ⟨bm, N, nm, qn, bs, hdct, sn, sub, ab, col, dd, k0, k1, k2, k3, k5, mN, hC, hN, hni, T⟩ := exc_obj I.kIn q
  refine wpAny_call_exc_subT FB T hC hN hni (fun h' a hm => ?_) (by show 0 ≤ sizeLine; rw [sizeLine_eq]; omega)
  have hn : H a = none := I.hok.gone hm.new
  obtain ⟨t, ht, _, _⟩ := hm.there
  exact ⟨.ref a, upd H a (ExO (.ref C) a), I.laidN hm.keeps hm.new hn (exO_ok ht ⟨rfl, rfl⟩ rfl rfl rfl (show 4 < 6 by decide)), rfl, h a hn⟩
end

section
variable {X : Cx} {C : Addr} {n : Str} {e : Expr} {te : TE} {pos : Pos}
/-- e.n of an exception held -/
theorem pe_fld (T : XfC X.K C) (hno : PySem.W.findIn X.K (.ref C) n = some none) (he : PE X e te) (hb : attributeBase e n X.env (eval e X.env) = eval e X.env := by rfl) :
    PE X (.Attribute e n pos) (fun σ H Q => te σ H fun x H1 => ∃ a d fs v, x = .ref a ∧ H1 a = some (exo a C (some d)) ∧ H1 d = some (exd d fs) ∧ fs.lookup n = some v ∧ Q v H1) := by
  refine ⟨fun pins s σ H Q I h => ?_⟩
  refine attr_of hb (thn (he.run pins s σ H _ I h) fun u s1 hh => ?_)
  obtain ⟨x, H1, I1, rx, a, d, fs, v, ex, ea, ed, l, q⟩ := hh
  subst ex
  obtain rfl : u = Value.ref a := rx
  obtain ⟨t1, ho⟩ := exo_at I1.hok ea
  obtain ⟨mA, hns, hr⟩ := exd_at I1.hok ed
  obtain ⟨od, ho2, hl⟩ := lookIn_ns hns
  obtain ⟨u, hu, ru⟩ := RelO.some_of (v := v) (o := mA n) (by rw [← l]; exact hr n)
  have J : PySem.W.InstAt s1.heap a _ C (some od) := ⟨ho, rfl, rfl, ho2⟩
  exact HandSPX.exc_get I1.kIn J T.ga T.gg T.exC (PySem.W.findObj_own T.hdC hno rfl (by rw [hl, hu])) (handed_of ru) ⟨v, H1, I1.tok _, ru, q⟩
/-- isinstance(e, c) of an exception held -/
def rIsX (K : PySem.W.Frag) : List V → Hp → VK → Prop := fun xs H Q => ∃ (a C : Addr) (fs : List (Str × V)) (c : V) (cv : Value) (b : Bool), xs = [.ref a, c] ∧ ExAt H a C fs ∧ ExcC K C ∧ (∀ u, RelV c u → u = cv) ∧ PySem.W.kitOne K (.ref C) cv = some b ∧ Q (.bl b) H
theorem exAt_inst {pins : List (Addr × Obj)} {σ : St} {H : Hp} {s : Shared} {a : Addr} {fs : List (Str × V)} (I : Inv X pins σ H s) (h : ExAt H a C fs) : ∃ ox od, PySem.W.InstAt s.heap a ox C od := by
  rcases h with ⟨_, h⟩ | ⟨d, h1, h2⟩
  · obtain ⟨⟨oe, vs, ho, ⟨hz1, hz2⟩, hd, _⟩, _, _⟩ := I.hok a _ h
    refine ⟨oe, none, ho, hz1, by unfold PySem.W.notCls; rw [hd] <;> rfl, by rw [hz2]; trivial⟩
  · obtain ⟨t1, ho⟩ := exo_at I.hok h1
    obtain ⟨mA, hns, hr⟩ := exd_at I.hok h2
    obtain ⟨od, ho2, hl⟩ := lookIn_ns hns
    exact ⟨_, some od, ho, rfl, rfl, ho2⟩
theorem call_isX : CallR X (.builtin "isinstance") (rIsX X.K) := by
  intro pins s σ H xs us Q I r h
  obtain ⟨a, C, fs, c, cv, b, rfl, ea, T, hcv, e, q⟩ := h
  cases r with
  | cons rx rr =>
    cases rr with
    | cons rt rr =>
      cases rr
      cases rx
      have ec := hcv _ rt
      subst ec
      obtain ⟨ox, od, J⟩ := exAt_inst I ea
      obtain ⟨cd, hcd, _⟩ := PySem.W.any_some T.hd
      exact PySem.W.kia_one (PySem.W.kitx_exc (by rw [hcd]; rfl) T.hg T.hk T.hs T.ha T.hn T.ht T.hm) I.kIn J e (fun z => nomatch z) fun tk => ⟨.bl b, H, I.kept (t' := tk) fun _ _ z => z, rfl, q⟩
end
end Py
end L2
namespace L2
namespace Py
section
open PySem PySem.Calls PyProof.Rows Builtin Builtin.ObjectAttr Builtin.Getset_descriptor PySem.W
variable {prog : Program} {w : World} {A : Around} {E : Value → Shared → Prop} {s : Shared} {K : Frag} {C : Addr} {R : Result → Shared → Prop}
theorem dga_ref (d tp : Value) (C : Addr) : descrGetArgs ⟨[d, .ref C, tp], []⟩ = pure (d, some (.ref C), given tp) := by kernel_rfl
theorem cname_get {tp : Value} {o : Obj} {nm : Str} {tk : Tok} (X : K.In s.heap) (ht : typeIn K (.ref C) = some (.type "type")) (lC : K.lookup C = some o) (hs : (o.slots[2]?).join = some (.str nm tk)) (h : R (.ok (.ret (.str nm tk))) s) :
    codeAny (model prog w) A (.call (.builtin "getset_descriptor.__get__") ⟨[.builtin "type.__name__", .ref C, tp], []⟩) R s := by
  obtain ⟨hh, g, dr, t, os⟩ := s
  have L0 : Looks (model prog w) hh (typeOf (.ref C)) (.type "type") := looks_typeIn X ht
  have L1 : Looks (model prog w) hh (isSubtype (.type "type") (.type "type")) true := Looks.of_pure (by rw [isSubtype_type]; kernel_rfl)
  refine codeAny_call_builtin KF.slot_gs.plain KF.entry_gs (KF.slot_gs.check _ _ _ _ _ _ _ _ ktyn_type (KF.args_gs _ _ _) ?_)
  unfold Builtin.«getset_descriptor.__get__» descrGet
  rw [dga_ref]
  refine wpAny_bind (wpAny_pure ?_)
  unfold descrGetter descrCheckInstance descrNameAndClass isInstance
  simp only [ktyn_owner]
  repeat lk
  refine ⟨Code.quiet_builtin _ (by decide +kernel), codeAny_builtin ktyn_entry ?_⟩
  unfold Builtin.«type.__name__»
  dsimp only
  unfold keptObject slotAt
  refine wpAny_bind (wpAny_bind (wpAny_loadPart (X _ _ lC) (wpAny_pure ?_)))
  rw [hs]
  exact wpAny_pure h
theorem exc_class {x : Addr} {ox : Obj} {od : Option Obj} {expr : Bool} {Q : Value → Shared → Prop} {gt : Option Value} (X : K.In s.heap) (I : InstAt s.heap x ox C od) (hga : findIn K (.ref C) "__getattribute__" = some (some (.builtin "BaseException.__getattribute__"))) (hgt : findIn K (.ref C) "__getattr__" = some gt)
    (hsub : subIn K (.ref C) (.type "BaseException") = some true) (hf : findObj K C od "__class__" = some (.bind (.builtin "getset_descriptor.__get__") (.builtin "object.__class__"))) (hm : mroIn K C (.type "object") = some true)
    (h : Q (.ref C) { s with toks := s.toks + 1 }) : wpAny (model prog w) A (getAttr (.ref x) "__class__" expr) Q E s := by
  obtain ⟨hp, g, d, t, os⟩ := s
  have L0 := I.type (M := model prog w)
  have L1 := looks_findIn (M := model prog w) X hga
  have L2 := looks_findIn (M := model prog w) X hgt
  have L3 := looks_find (M := model prog w) X I hf
  have sub : Looks (model prog w) hp (isInstance (.ref x) (.type "BaseException")) true := L0.andThen (looks_subIn X hsub)
  have hx0 : (expr && onTheHeap (Value.builtin "BaseException.__getattribute__")) = false := by cases expr <;> rfl
  have hx2 : (Value.builtin "BaseException.__getattribute__" == Value.builtin "object.__getattribute__") = false := by decide +kernel
  have hx1 : (onTheHeap (Value.ref C) && Value.builtin "BaseException.__getattribute__" == Value.builtin "object.__getattribute__") = false := by rw [hx2]; rfl
  unfold getAttr getAttrBy
  refine wpAny_bind (wpAny_mkText (wpAny_holding (wpAny_bind (L0.at (wpAny_bind (L1.at ?_))))))
  show wpAny _ _ (if (onTheHeap (Value.ref C) && Value.builtin "BaseException.__getattribute__" == Value.builtin "object.__getattribute__") = true then _ else _) _ _ _
  rw [hx1, if_neg Bool.false_ne_true]
  unfold getAttrByItsOwn hookBefore
  refine wpAny_bind ?_
  rw [if_pos (show onTheHeap (Value.ref C) = true from rfl)]
  refine L2.at ?_
  refine wpAny_bind (wpAny_attempt (wpAny_holding ?_))
  unfold callGetattribute
  rw [hx0, if_neg Bool.false_ne_true]
  unfold boundAndCalled
  rw [PySem.F.excAttr_ValueError.ga.bind (.ref x)]
  refine wpAny_bind (wpAny_pure ?_)
  show wpAny _ _ (call (.builtin "BaseException.__getattribute__") [.ref x, .str "__class__" t]) _ _ _
  refine wpAny_call (codeAny_call_builtin PySem.F.excAttr_ValueError.ga.plain PySem.F.entry_bexc_ga ?_)
  refine @PySem.W.check_slot (model prog w) _ _ ⟨hp, g, d, t + 1, os⟩ "BaseException.__getattribute__" "BaseException" "__getattribute__" (.ref x) [.str "__class__" t] [] _ (by decide +kernel) (by decide +kernel) sub (PySem.F.args_bexc_ga (.ref x) (.str "__class__" t)) ?_
  unfold Builtin.«object.__getattribute__»
  refine wpAny_bind (wpAny_of_eq (a := ((Value.ref x : Value), [Value.str "__class__" t])) (by first | rfl | (simp only [slotArgs]; rfl)) ?_)
  refine wpAny_bind (wpAny_pure (wpAny_bind (L0.at (wpAny_bind (L3.at ?_)))))
  refine wpAny_bind (wpAny_holding (wpAny_call (class_get (s := ⟨hp, g, d, t + 1, os⟩) (ox := ox) (od := od) X I hm ?_)))
  refine wpAny_pure ?_
  show wpAny _ _ (handedOut (.ref C)) _ _ _
  rw [handedOut_of (show handedIn (.ref C) = true from rfl)]
  first | exact wpAny_pure h | exact wpAny_pure (wpAny_pure h)
theorem cls_name {o : Obj} {nm : Str} {tk : Tok} {expr : Bool} {Q : Value → Shared → Prop} (X : K.In s.heap) (ht : typeIn K (.ref C) = some (.type "type")) (lC : K.lookup C = some o) (hs : (o.slots[2]?).join = some (.str nm tk)) (hop : nsIn K cStatics "thirdparty.any" = some none)
    (e : findCls K (.ref C) (.type "type") "__name__" = some (.get (.builtin "getset_descriptor.__get__") (.builtin "type.__name__") (.ref C) (.type "type"))) (h : ∀ u, Q (.str nm tk) { s with toks := u }) :
    wpAny (model prog w) A (getAttr (.ref C) "__name__" expr) Q E s := by
  refine cls_open X (looks_opaque X hop) (looks_typeIn X ht) type_tga (looks_hook X (r := none) (by rfl)) (by show subIn K _ _ = _; rfl) e ?_
  show wpAny _ _ (do ret (← holding [Value.builtin "type.__name__"] (call (.builtin "getset_descriptor.__get__") [.builtin "type.__name__", .ref C, .type "type"]))) _ _ _
  refine wpAny_bind (wpAny_holding (wpAny_call (cname_get (s := { s with toks := s.toks + 1 }) X ht lC hs ?_)))
  exact wpAny_pure (handed_on rfl (h _))
end
end Py
end L2

set_option Elab.async false
set_option linter.all false
set_option maxRecDepth 100000
set_option maxHeartbeats 2000000
/-! Own exceptions held as values: the rules. -/
namespace L2
namespace Py
open PySem PySem.Spec PyProof.Rows

/-- the class at C tells its name -/
structure NameC (K : PySem.W.Frag) (C : Addr) (nm : Str) : Prop where
  ty : PySem.W.typeIn K (.ref C) = some (.type "type")
  sl : ∃ o tk, K.lookup C = some o ∧ (o.slots[2]?).join = some (.str nm tk)
  op : PySem.W.nsIn K cStatics "thirdparty.any" = some none
  fc : PySem.W.findCls K (.ref C) (.type "type") "__name__" = some (.get (.builtin "getset_descriptor.__get__") (.builtin "type.__name__") (.ref C) (.type "type"))
section
variable {X : Cx} {C : Addr} {n : Str} {e : Expr} {te : TE} {pos : Pos}
theorem pe_cls (he : PE X e te) (hb : attributeBase e "__class__" X.env (eval e X.env) = eval e X.env := by rfl) :
    PE X (.Attribute e "__class__" pos) (fun σ H Q => te σ H fun x H1 => ∃ a C fs, x = .ref a ∧ ExAt H1 a C fs ∧ ExcC X.K C ∧ Q (.ref C) H1) := by
  refine ⟨fun pins s σ H Q I h => ?_⟩
  refine attr_of hb (thn (he.run pins s σ H _ I h) fun u s1 hh => ?_)
  obtain ⟨x, H1, I1, rx, a, C, fs, rfl, ea, T, q⟩ := hh
  obtain rfl : u = Value.ref a := rx
  obtain ⟨ox, od, J⟩ := exAt_inst I1 ea
  obtain ⟨cd, hcd, _⟩ := PySem.W.any_some T.hd
  have hc : (PySem.W.clsIn X.K C).isSome = true := by rw [hcd]; rfl
  have hf : PySem.W.findObj X.K C od "__class__" = some (.bind (.builtin "getset_descriptor.__get__") (.builtin "object.__class__")) := by
    cases od with
    | none => exact PySem.W.findObj_dataN hc T.ha T.hn T.ht
    | some o => exact PySem.W.findObj_data hc T.ha T.hn T.ht
  exact exc_class I1.kIn J T.hg T.hk T.hs hf T.hm ⟨.ref C, H1, I1.tok _, rfl, q⟩
theorem pe_cname (he : PE X e te) (hb : attributeBase e "__name__" X.env (eval e X.env) = eval e X.env := by rfl) :
    PE X (.Attribute e "__name__" pos) (fun σ H Q => te σ H fun x H1 => ∃ C nm, x = .ref C ∧ NameC X.K C nm ∧ Q (.str nm) H1) := by
  refine ⟨fun pins s σ H Q I h => ?_⟩
  refine attr_of hb (thn (he.run pins s σ H _ I h) fun u s1 hh => ?_)
  obtain ⟨x, H1, I1, rx, C, nm, rfl, T, q⟩ := hh
  obtain rfl : u = Value.ref C := rx
  obtain ⟨o, tk, lC, hs⟩ := T.sl
  exact cls_name I1.kIn T.ty lC hs T.op T.fc fun u => ⟨.str nm, H1, I1.tok u, ⟨tk, rfl⟩, q⟩
/-- e.n(), n a def of a class above the exception's -/
structure MethC (K : PySem.W.Frag) (C : Addr) (n : Str) (f : Addr) : Prop where
  ga : PySem.W.findIn K (.ref C) "__getattribute__" = some (some (.builtin "BaseException.__getattribute__"))
  gn : PySem.W.findIn K (.ref C) "__getattr__" = some none
  hf : PySem.W.findIn K (.ref C) n = some (some (.ref f))
  ht : PySem.W.isFn K (.ref f) = true
theorem pe_xmeth {k : Nat} {f : Addr} {fd : FuncData} {ps : List Str} {sp : Sp} {pl : Sem Bool} {apos : Pos} (F : FnOk X.prog X.w X.K X.mg X.base (L2.CX X.prog X.w) k f fd ps sp) (hr : Room k X.A) (hb : Binds X.K fd ps []) (kF : PySem.W.keepIn X.K (.ref f) = true) (he : PE X e te)
    (hev : eval (.Call (.Attribute e n apos) [] [] pos) X.env = (do
      let ov ← eval e X.env
      standAt apos.atName
      let (f, first) ← holding [ov] (getMethod ov n pl)
      callWith pos f first (backTo pos (starEach [] X.env)) (backToKw pos (keywordEach [] X.env))) := by rfl) :
    PE X (.Call (.Attribute e n apos) [] [] pos) (fun σ H Q => te σ H fun x H1 => ∃ a C fs, x = .ref a ∧ ExAt H1 a C fs ∧ MethC X.K C n f ∧ fs.lookup n = none ∧ sp [.ref a] H1 Q (fun _ _ _ => False)) := by
  refine ⟨fun pins s σ H Q I h => ?_⟩
  refine PySem.W.methodCall_KW (thn (he.run pins s σ H _ I h) fun u s1 hh => ?_) hev
  obtain ⟨x, H1, I1, rx, a, C, fs, rfl, ea, T, hl, q⟩ := hh
  obtain rfl : u = Value.ref a := rx
  obtain ⟨m, fr⟩ := I1.fr
  have go : ∀ od, PySem.W.shadowIn od n = some false → ∀ ox, PySem.W.InstAt s1.heap a ox C od → wpAny (model X.prog X.w) X.A (getMethod (.ref a) n pl) (fun fx s₂ => wpAny (model X.prog X.w) X.A (callWith pos fx.1 fx.2 (backTo pos (starEach [] X.env)) (backToKw pos (keywordEach [] X.env))) (EP X pins σ Q) X.xe s₂) X.xe s1 := fun od hs ox J => by
    refine PySem.W.method_exc fr I1.ok.mod.kin J T.ga T.gn T.hf T.ht hs ?_
    show wpAny _ _ (callWith pos (.ref f) [.ref a] (backTo pos (starEach [] X.env)) []) _ _ _
    refine PySem.W.callWith_K0 I1.kIn kF ?_
    show wpAny _ _ (call (.ref f) [.ref a]) _ _ _
    have q' : sp ([.ref a] ++ []) H1 Q (fun _ _ _ => False) := q
    exact run_fn (ds := []) (dvs := []) (E := fun _ _ _ => False) F hr hb .nil (fun pins σ H s e s' I z => by
      obtain ⟨_, _, _, _, _, _, _, _, _, _, _, z⟩ := z
      exact z.2.elim) I1 (show Vals [V.ref a] [Value.ref a] from .cons rfl .nil) q'
  rcases ea with ⟨rfl, h1⟩ | ⟨d, h1, h2⟩
  · obtain ⟨⟨oe, vs, ho, ⟨hz1, hz2⟩, hd, _⟩, _, _⟩ := I1.hok a _ h1
    exact go none rfl oe ⟨ho, hz1, by unfold PySem.W.notCls; rw [hd] <;> rfl, by rw [hz2]; trivial⟩
  · obtain ⟨t1, ho⟩ := exo_at I1.hok h1
    obtain ⟨mA, hns, hrel⟩ := exd_at I1.hok h2
    obtain ⟨od, ho2, hlk⟩ := lookIn_ns hns
    refine go (some od) ?_ _ ⟨ho, rfl, rfl, ho2⟩
    have hm : mA n = none := by
      have := hrel n
      rw [hl] at this
      cases e : mA n with
      | none => rfl
      | some u => rw [e] at this; exact this.elim
    show (PySem.W.lookIn n od).map (·.isSome) = some false
    rw [hlk, hm]
    rfl
end
/-- what class_name keeps -/
def spCN (K : PySem.W.Frag) : Sp := fun vs H Q _ => ∃ a C fs nm, vs = [.ref a] ∧ ExAt H a C fs ∧ ExcC K C ∧ NameC K C nm ∧ nm.length ≤ sizeLine ∧ Q (.str nm) H
end Py
end L2

set_option Elab.async false
set_option linter.all false
set_option maxRecDepth 100000
set_option maxHeartbeats 2000000
/-! Own exceptions of one and two fields: made as values. -/
namespace L2
namespace Py
open PySem PySem.Spec PyProof.Rows NdefX

/-- what is tracked stays -/
def Sm (H H' : Hp) : Prop := ∀ b x, H b = some x → H' b = some x
theorem Sm.refl {H : Hp} : Sm H H := fun _ _ e => e
theorem Sm.trans {H H1 H2 : Hp} (a : Sm H H1) (b : Sm H1 H2) : Sm H H2 := fun x o e => b x o (a x o e)
theorem Sm.upd {H H1 : Hp} {p : Addr} {o : HO} (a : Sm H H1) (h : H p = none) : Sm H (upd H1 p o) := fun b x e => by
  rw [upd_ne (ne_of_none e h)]
  exact a b x e
theorem Sm.new {H : Hp} {p : Addr} {o : HO} (h : H p = none) : Sm H (L2.upd H p o) := Sm.upd Sm.refl h
theorem Sm.none {H H1 : Hp} {p : Addr} (a : Sm H H1) (h : H1 p = none) : H p = none := by
  cases e : H p with
  | none => rfl
  | some x => rw [a p x e] at h; cases h
theorem ExAt.sm {H H1 : Hp} {a C : Addr} {fs : List (Str × V)} (h : ExAt H a C fs) (s : Sm H H1) : ExAt H1 a C fs := by
  rcases h with ⟨h1, h2⟩ | ⟨d, h1, h2⟩
  · exact .inl ⟨h1, s _ _ h2⟩
  · exact .inr ⟨d, s _ _ h1, s _ _ h2⟩

/-- the class at C has an __init__ at f whose fd this is -/
structure IniC (P : Program) (K : PySem.W.Frag) (C f : Addr) (F : NF) (doc pm ct : Value) (ps : List Str) : Prop where
  Z : SupC P K C f F doc pm ct ps
  iC : PySem.W.findIn K (.ref C) "__init__" = some (some (.ref f))
  tI : PySem.W.typeIn K (.ref f) = some (.type "function")
  b : Binds K (F.fd doc pm ct) ps []
section
variable {P : Program} {w : World} {K : PySem.W.Frag} {mg : Str → Option Value} {base : Heap} {C f : Addr} {F : NF} {doc pm ct : Value} {k : Nat} {f1 f2 : Str}
def spI2 (C : Addr) (f1 f2 : Str) : Sp := fun vs H Q _ => ∃ a v1 v2, vs = [.ref a, v1, v2] ∧ H a = some (exo a C none) ∧ ∀ d, H d = none → d ≠ a → Q .non (upd (upd (upd H d (exd d [(f1, v1)])) a (exo a C (some d))) d (exd d [(f2, v2), (f1, v1)]))
def spI1 (C : Addr) (f1 : Str) : Sp := fun vs H Q _ => ∃ a v1, vs = [.ref a, v1] ∧ H a = some (exo a C none) ∧ ∀ d, H d = none → d ≠ a → Q .non (upd (upd H d (exd d [(f1, v1)])) a (exo a C (some d)))
theorem init2 {p1 p2 : Str} (Z : SupC P K C f F doc pm ct ["self", p1, p2]) (mgs : mg "super" = none) (n1 : PySem.W.findIn K (.ref C) f1 = some none) (n2 : PySem.W.findIn K (.ref C) f2 = some none)
    {q0 q1 q2 q3 q4 q5 q6 r1 r2 r3 r4 r5 r6 r7 r8 : Pos}
    (hbody : F.body = [.Expr (.Call (.Attribute (.Call (.Name "super" q0) [] [] q1) "__init__" q2) [.Name p1 q5, .Name p2 q6] [] q3) q4, .Assign [.Attribute (.Name "self" r1) f1 r2] (.Name p1 r3) r4, .Assign [.Attribute (.Name "self" r5) f2 r6] (.Name p2 r7) r8])
    (hd1 : (p1 == ("__debug__" : Str)) = false) (hd2 : (p2 == ("__debug__" : Str)) = false) (hc1 : (p1 == ("__classdict__" : Str)) = false) (hc2 : (p2 == ("__classdict__" : Str)) = false)
    (hst : ∀ env : Env, starEach [.Name p1 q5, .Name p2 q6] env = (false, eval (.Name p1 q5) env) :: starEach [.Name p2 q6] env) (hst2 : ∀ env : Env, starEach [.Name p2 q6] env = (false, eval (.Name p2 q6) env) :: starEach [] env) (hpl : ∀ env : Env, (backTo q3 (starEach [.Name p2 q6] env)).any (·.1) = false)
    (hsw : ∀ env : Env, swapsWith (.Call (.Attribute (.Call (.Name "super" q0) [] [] q1) "__init__" q2) [.Name p1 q5, .Name p2 q6] [] q3) none q4.line env = pure false)
    (hsw1 : ∀ env : Env, swapsWith (.Name p1 r3) (some (.Attribute (.Name "self" r1) f1 r2)) r4.line env = pure false) (hsw2 : ∀ env : Env, swapsWith (.Name p2 r7) (some (.Attribute (.Name "self" r5) f2 r6)) r8.line env = pure false)
    (hev : ∃ pl : Sem Bool, ∀ env : Env, eval (.Call (.Attribute (.Call (.Name "super" q0) [] [] q1) "__init__" q2) [.Name p1 q5, .Name p2 q6] [] q3) env = (do
      let ov ← attributeBase (.Call (.Name "super" q0) [] [] q1) "__init__" env (eval (.Call (.Name "super" q0) [] [] q1) env)
      standAt q2.atName
      let (f, first) ← holding [ov] (getMethod ov "__init__" pl)
      callWith q3 f first (backTo q3 (starEach [.Name p1 q5, .Name p2 q6] env)) [])) :
    FnOk P w K mg base (L2.CX P w) (k + 1) f (F.fd doc pm ct) ["self", p1, p2] (spI2 C f1 f2) := by
  have lc : ∀ x ∈ (["self", p1, p2] : List Str), F.scope.names.lookup x = some .local := Z.S.par
  have s0 := lc "self" (by simp)
  have s1 := lc p1 (by simp)
  have s2 := lc p2 (by simp)
  have v0 : ∀ (A : Around) (outer : List Env) (s : Shared) (H : Hp) (E : XK) (pos : Pos), PE (ncx (L2.CX P w) P w K mg base ((["self", p1, p2] : List Str) ++ [clsS]) F f A outer s H E) (.Name "self" pos) (tVar 0) := fun A outer s H E pos => pv 0 rfl (.inl s0)
  have v1 : ∀ (A : Around) (outer : List Env) (s : Shared) (H : Hp) (E : XK) (pos : Pos), PE (ncx (L2.CX P w) P w K mg base ((["self", p1, p2] : List Str) ++ [clsS]) F f A outer s H E) (.Name p1 pos) (tVar 1) := fun A outer s H E pos => pv 1 rfl (.inl s1) hd1 hc1
  have v2 : ∀ (A : Around) (outer : List Env) (s : Shared) (H : Hp) (E : XK) (pos : Pos), PE (ncx (L2.CX P w) P w K mg base ((["self", p1, p2] : List Str) ++ [clsS]) F f A outer s H E) (.Name p2 pos) (tVar 2) := fun A outer s H E pos => pv 2 rfl (.inl s2) hd2 hc2
  refine FnOk.imp (sup_fn (t := tSeq (tOst K f1 (tVar 0) (tVar 1)) (tOst K f2 (tVar 0) (tVar 2))) (ta := tCons (tVar 1) (tCons (tVar 2) tNil)) Z mgs hbody (fun A outer s H E => pss_cons (ps_ost (v0 A outer s H E _) (v1 A outer s H E _) (hsw1 _)) (pss_one (ps_ost (v0 A outer s H E _) (v2 A outer s H E _) (hsw2 _)))) (fun A outer s H E => pa_cons (v1 A outer s H E _) (pa_cons (v2 A outer s H E _) pa_nil (hst2 _)) (hst _)) (fun a ws H R hl h => ?_) hst hpl hsw hev) fun vs H Q E h => ?_
  · match ws, hl with
    | [x, y], _ => exact ⟨x, rfl, y, rfl, h⟩
  · obtain ⟨a, x, y, rfl, ea, q⟩ := h
    refine ⟨a, [x, y], rfl, rfl, (by decide : 2 ≤ 1000), ea, ?_⟩
    exact ⟨x, rfl, .ref a, rfl, a, C, rfl, Z.T, n1, .inl ⟨ea, fun d hn hne => ⟨y, rfl, .ref a, rfl, a, C, rfl, Z.T, n2, .inr ⟨d, [(f1, x)], upd_same, (upd_ne hne).trans upd_same, by simp, q d hn hne⟩⟩⟩⟩
theorem init1 {p1 : Str} (Z : SupC P K C f F doc pm ct ["self", p1]) (mgs : mg "super" = none) (n1 : PySem.W.findIn K (.ref C) f1 = some none)
    {q0 q1 q2 q3 q4 q5 q6 r1 r2 r3 r4 r5 r6 r7 r8 : Pos}
    (hbody : F.body = [.Expr (.Call (.Attribute (.Call (.Name "super" q0) [] [] q1) "__init__" q2) [.Name p1 q5] [] q3) q4, .Assign [.Attribute (.Name "self" r1) f1 r2] (.Name p1 r3) r4])
    (hd1 : (p1 == ("__debug__" : Str)) = false) (hc1 : (p1 == ("__classdict__" : Str)) = false)
    (hst : ∀ env : Env, starEach [.Name p1 q5] env = (false, eval (.Name p1 q5) env) :: starEach [] env) (hpl : ∀ env : Env, (backTo q3 (starEach [] env)).any (·.1) = false)
    (hsw : ∀ env : Env, swapsWith (.Call (.Attribute (.Call (.Name "super" q0) [] [] q1) "__init__" q2) [.Name p1 q5] [] q3) none q4.line env = pure false)
    (hsw1 : ∀ env : Env, swapsWith (.Name p1 r3) (some (.Attribute (.Name "self" r1) f1 r2)) r4.line env = pure false)
    (hev : ∃ pl : Sem Bool, ∀ env : Env, eval (.Call (.Attribute (.Call (.Name "super" q0) [] [] q1) "__init__" q2) [.Name p1 q5] [] q3) env = (do
      let ov ← attributeBase (.Call (.Name "super" q0) [] [] q1) "__init__" env (eval (.Call (.Name "super" q0) [] [] q1) env)
      standAt q2.atName
      let (f, first) ← holding [ov] (getMethod ov "__init__" pl)
      callWith q3 f first (backTo q3 (starEach [.Name p1 q5] env)) [])) :
    FnOk P w K mg base (L2.CX P w) (k + 1) f (F.fd doc pm ct) ["self", p1] (spI1 C f1) := by
  have lc : ∀ x ∈ (["self", p1] : List Str), F.scope.names.lookup x = some .local := Z.S.par
  have s0 := lc "self" (by simp)
  have s1 := lc p1 (by simp)
  have v0 : ∀ (A : Around) (outer : List Env) (s : Shared) (H : Hp) (E : XK) (pos : Pos), PE (ncx (L2.CX P w) P w K mg base ((["self", p1] : List Str) ++ [clsS]) F f A outer s H E) (.Name "self" pos) (tVar 0) := fun A outer s H E pos => pv 0 rfl (.inl s0)
  have v1 : ∀ (A : Around) (outer : List Env) (s : Shared) (H : Hp) (E : XK) (pos : Pos), PE (ncx (L2.CX P w) P w K mg base ((["self", p1] : List Str) ++ [clsS]) F f A outer s H E) (.Name p1 pos) (tVar 1) := fun A outer s H E pos => pv 1 rfl (.inl s1) hd1 hc1
  refine FnOk.imp (sup_fn (t := tOst K f1 (tVar 0) (tVar 1)) (ta := tCons (tVar 1) tNil) Z mgs hbody (fun A outer s H E => pss_one (ps_ost (v0 A outer s H E _) (v1 A outer s H E _) (hsw1 _))) (fun A outer s H E => pa_cons (v1 A outer s H E _) pa_nil (hst _)) (fun a ws H R hl h => ?_) hst hpl hsw hev) fun vs H Q E h => ?_
  · match ws, hl with
    | [x], _ => exact ⟨x, rfl, h⟩
  · obtain ⟨a, x, rfl, ea, q⟩ := h
    refine ⟨a, [x], rfl, rfl, (by decide : 1 ≤ 1000), ea, ?_⟩
    exact ⟨x, rfl, .ref a, rfl, a, C, rfl, Z.T, n1, .inl ⟨ea, fun d hn hne => q d hn hne⟩⟩
end
section
variable {C : Addr} {f1 f2 : Str} {v1 v2 : V} {H1 : Hp} {Q : VK}
theorem mk2_read (q : ∀ a H2, Sm H1 H2 → H1 a = none → ExAt H2 a C [(f2, v2), (f1, v1)] → Q (.ref a) H2) : [v1, v2].length ≤ 1000 ∧ ∀ a, H1 a = none → spI2 C f1 f2 (.ref a :: [v1, v2]) (upd H1 a (exo a C none)) (fun v H2 => v = .non ∧ Q (.ref a) H2) (fun _ _ _ => False) := by
  refine ⟨(by decide : 2 ≤ 1000), fun a hn => ⟨a, v1, v2, rfl, upd_same, fun d hd hne => ⟨rfl, q a _ ?_ hn (.inr ⟨d, ?_, upd_same⟩)⟩⟩⟩
  · have hd' : H1 d = none := by rw [upd_ne hne] at hd; exact hd
    exact Sm.upd (Sm.upd (Sm.upd (Sm.new hn) hd') hn) hd'
  · rw [upd_ne hne.symm, upd_same]
theorem mk1_read (q : ∀ a H2, Sm H1 H2 → H1 a = none → ExAt H2 a C [(f1, v1)] → Q (.ref a) H2) : [v1].length ≤ 1000 ∧ ∀ a, H1 a = none → spI1 C f1 (.ref a :: [v1]) (upd H1 a (exo a C none)) (fun v H2 => v = .non ∧ Q (.ref a) H2) (fun _ _ _ => False) := by
  refine ⟨(by decide : 1 ≤ 1000), fun a hn => ⟨a, v1, rfl, upd_same, fun d hd hne => ⟨rfl, q a _ ?_ hn (.inr ⟨d, upd_same, ?_⟩)⟩⟩⟩
  · have hd' : H1 d = none := by rw [upd_ne hne] at hd; exact hd
    exact Sm.upd (Sm.upd (Sm.new hn) hd') hn
  · rw [upd_ne hne, upd_same]
end
/-- all that is tracked stayed: the ledger stands as it stood -/
theorem ext_sm {G : Gd} {hs : Hs} {N : Lg} {H H' : Hp} (h : HRel G hs N H) (s : Sm H H') : HRel G hs N H' ∧ ExtE H N H' N := by
  have same : ∀ a, H a ≠ none → H' a = H a := fun a hn => by
    cases e : H a with
    | none => exact absurd e hn
    | some o => exact s a o e
  have e : ExtE H N H' N := ⟨fun a o q _ => s a o q, fun a l => .inl l, fun i a _ q => q, fun a l _ _ => l, fun i a _ _ q => q, fun a q => by rw [same a q]; exact q, fun a l _ q => same a q⟩
  refine ⟨⟨h.len, fun i c a q1 q2 => CRel.ext e (same a (h.there (N.liv a (List.mem_of_getElem? q2)))) (h.at_ i c a q1 q2), fun a l => ?_⟩, e⟩
  rw [same a (h.there l)]
  exact h.mu a l
end Py
end L2

set_option Elab.async false
set_option linter.all false
set_option maxRecDepth 100000
set_option maxHeartbeats 4000000
namespace Lk00
open PySem PySem.Spec PyProof.Rows L2 L2.Py
def topS (i : Nat) : Stmt := PySem.Challenge.pw_casetrees_k00_errors_and_forms.main.body.getD i (.Pass ⟨0, 0, 0, 0⟩)
def c_DIGITS : D := .str "0123456789"
def c_LETTERS : D := .str "abcdefghijklmnopqrstuvwxyz"
def c_MANY : D := .tup [.str "row", .str "one", .str "beside"]
def c_MOST_DEEP : D := .int (60)
def c_MOST_LETTERS : D := .int (8)
def c_MOST_NAMES : D := .int (400)
def c_RESERVED : D := .tup [.str "again", .str "beside", .str "case", .str "end", .str "log", .str "of", .str "one", .str "quiet", .str "row", .str "times", .str "tree", .str "work"]
def f__law_errors : FM := fun _ hs => .ok (.bl true) hs
/-- what the module has -/
structure Mo (K : PySem.W.Frag) (mg : Str → Option Value) : Prop where
  d__law_bag : DefG K mg "_law_bag" (topS 33) ["script"]
  d__law_take : DefG K mg "_law_take" (topS 34) ["bag", "many"]
  d__law_some : DefG K mg "_law_some" (topS 35) ["bag", "things"]
  d__law_drawn : DefG K mg "_law_drawn" (topS 45) ["bag"]
  d_is_integer : DefG K mg "is_integer" (topS 16) ["thing"]
  d_is_count : DefG K mg "is_count" (topS 17) ["thing"]
  d_is_name : DefG K mg "is_name" (topS 18) ["thing"]
  d_is_tuple_of : DefG K mg "is_tuple_of" (topS 19) ["thing", "is_item"]
  d_is_case : DefG K mg "is_case" (topS 22) ["thing"]
  d_divisor_of : DefG K mg "divisor_of" (topS 23) ["one", "other"]
  d_is_fraction : DefG K mg "is_fraction" (topS 24) ["thing"]
  d_inner_in : DefG K mg "inner_in" (topS 25) ["thing"]
  d_is_tree_form : DefG K mg "is_tree_form" (topS 26) ["thing"]
  d__law_int : DefG K mg "_law_int" (topS 37) ["thing"]
  d__law_is_name : DefG K mg "_law_is_name" (topS 38) ["thing"]
  d__law_is_row : DefG K mg "_law_is_row" (topS 39) ["thing", "most"]
  d__law_alike : DefG K mg "_law_alike" (topS 36) ["found", "due"]
  d__law_gcd : DefG K mg "_law_gcd" (topS 43) ["a", "b"]
  d__law_is_fraction : DefG K mg "_law_is_fraction" (topS 44) ["thing"]
  d__law_is_tree : DefG K mg "_law_is_tree" (topS 40) ["thing"]
  d_are_rising : DefG K mg "are_rising" (topS 20) ["things"]
  d_is_names : DefG K mg "is_names" (topS 21) ["thing"]
  d_is_counted : DefG K mg "is_counted" (topS 27) ["thing"]
  d_is_log_form : DefG K mg "is_log_form" (topS 28) ["thing"]
  d_is_led : DefG K mg "is_led" (topS 29) ["thing"]
  d_is_state_form : DefG K mg "is_state_form" (topS 30) ["thing"]
  d_is_machine_form : DefG K mg "is_machine_form" (topS 31) ["thing"]
  d__law_is_log : DefG K mg "_law_is_log" (topS 41) ["thing"]
  d__law_is_machine : DefG K mg "_law_is_machine" (topS 42) ["thing"]
  d_law : DefG K mg "law" (topS 47) ["script"]
  c_DIGITS : GvR K mg "DIGITS" Lk00.c_DIGITS
  c_LETTERS : GvR K mg "LETTERS" Lk00.c_LETTERS
  c_MANY : GvR K mg "MANY" Lk00.c_MANY
  c_MOST_DEEP : GvR K mg "MOST_DEEP" Lk00.c_MOST_DEEP
  c_MOST_LETTERS : GvR K mg "MOST_LETTERS" Lk00.c_MOST_LETTERS
  c_MOST_NAMES : GvR K mg "MOST_NAMES" Lk00.c_MOST_NAMES
  c_RESERVED : GvR K mg "RESERVED" Lk00.c_RESERVED
  z_abs : mg "abs" = none
  z_all : mg "all" = none
  z_bool : mg "bool" = none
  z_int : mg "int" = none
  z_isinstance : mg "isinstance" = none
  z_len : mg "len" = none
  z_range : mg "range" = none
  z_repr : mg "repr" = none
  z_str : mg "str" = none
  z_tuple : mg "tuple" = none
  z_zip : mg "zip" = none
theorem sc__law_bag : FnScope ["script", "cell"] ["script"] (defScope (topS 33)) := ⟨rfl, rfl, rfl, by decide +kernel, rfl, by decide +kernel, by decide +kernel⟩
theorem cal__law_bag {P : Program} {w : World} {K : PySem.W.Frag} {mg : Str → Option Value} {base : Heap} (T : Mo K mg) : CalN P w K mg base 1 "_law_bag" 1 f__law_bag := by
  obtain ⟨f, fd, F, g, b⟩ := T.d__law_bag
  have sc := sc__law_bag
  refine ⟨f, fd, _, fn_okN (k := 0) (b := b__law_bag) F sc rfl fun cdv A outer s H E Pd hg hr => ?_, g, F.kp, b⟩
  exact (ss_one (ss_retNewL (sa_cons se_int (sa_cons se_int (sa_cons se_int (sa_cons (se_lc (own := [("cell", 1)]) rfl sc.nd (blkOk_by (show blkC ["script", "cell"] (defScope (topS 33)) _ [("cell", 1)] = true from by decide +kernel)) (by decide +kernel) (si_list (se_slice (se_var (pv 0)) so_none (so_some se_int))) (fun _ _ _ _ _ => (sg_nm (i := 1) sc.nd (by rfl) (by first | exact .inl rfl | exact .inr rfl))) (fun _ _ _ _ _ => sts_nil) (fun _ _ _ _ _ => (se_callB cr_abs (by rfl) T.z_abs (by decide +kernel) (sa_cons (se_var (pv 1)) sa_nil)))) sa_nil))))))
theorem sc__law_take : FnScope ["bag", "many", "cell", "stirred", "value", "begin", "second"] ["bag", "many"] (defScope (topS 34)) := ⟨rfl, rfl, rfl, by decide +kernel, rfl, by decide +kernel, by decide +kernel⟩
theorem cal__law_take {P : Program} {w : World} {K : PySem.W.Frag} {mg : Str → Option Value} {base : Heap} (T : Mo K mg) : CalG P w K mg base 1 "_law_take" 2 f__law_take := by
  obtain ⟨f, fd, F, g, b⟩ := T.d__law_take
  have sc := sc__law_take
  refine ⟨f, fd, _, fn_ok (k := 0) (b := b__law_take) F sc rfl fun cdv A outer s H E Pd hg hr => ?_, g, F.kp, b⟩
  exact (ss_cons (ss_if (st_cmp (or_eq hr) (se_ix (se_var (pv 0)) se_int) se_int) (ss_cons (ss_set (i := 2) sc.nd (by rfl) (by first | exact .inl rfl | exact .inr rfl) (se_ix (se_op or_add (se_slice (se_ix (se_var (pv 0)) se_int) (so_some (se_ix (se_var (pv 0)) se_int)) so_none) (se_lst (sa_cons se_int sa_nil))) se_int))
  (ss_cons (ss_augI ip_add (se_var (pv 0)) se_int se_int)
  (ss_cons (ss_if (st_cmp or_ge (se_var (pv 2)) (se_op or_pow se_int se_int)) (ss_one (ss_setI (se_var (pv 2)) (se_var (pv 0)) se_int)) ss_nil)
  (ss_cons (ss_set (i := 3) sc.nd (by rfl) (by first | exact .inl rfl | exact .inr rfl) (se_op or_add (se_op or_add (se_op or_mul (se_ix (se_var (pv 0)) se_int) se_int) (se_op or_mod (se_callTy cr_int (by rfl) T.z_int (by decide +kernel) (sa_cons (se_var (pv 2)) sa_nil)) se_int)) (se_op or_mul se_int (se_ix (se_var (pv 0)) se_int))))
  (ss_one (ss_setI (se_op or_mod (se_callTy cr_int (by rfl) T.z_int (by decide +kernel) (sa_cons (se_var (pv 3)) sa_nil)) se_int) (se_var (pv 0)) se_int)))))) ss_nil)
  (ss_cons (ss_if (st_cmp or_gt (se_ix (se_var (pv 0)) se_int) se_int) (ss_cons (ss_set (i := 4) sc.nd (by rfl) (by first | exact .inl rfl | exact .inr rfl) (se_op or_mod (se_callTy cr_int (by rfl) T.z_int (by decide +kernel) (sa_cons (se_ix (se_var (pv 0)) se_int) sa_nil)) (se_var (pv 1))))
  (ss_cons (ss_setI (se_op or_fdiv (se_callTy cr_int (by rfl) T.z_int (by decide +kernel) (sa_cons (se_ix (se_var (pv 0)) se_int) sa_nil)) (se_var (pv 1))) (se_var (pv 0)) se_int)
  (ss_one (ss_ret (se_var (pv 4)))))) ss_nil)
  (ss_cons (ss_set (i := 5) sc.nd (by rfl) (by first | exact .inl rfl | exact .inr rfl) (se_op or_mod (se_callTy cr_int (by rfl) T.z_int (by decide +kernel) (sa_cons (se_op or_mul (se_op or_add (se_ix (se_var (pv 0)) se_int) se_int) se_int) sa_nil)) se_int))
  (ss_cons (ss_set (i := 6) sc.nd (by rfl) (by first | exact .inl rfl | exact .inr rfl) (se_op or_mod (se_callTy cr_int (by rfl) T.z_int (by decide +kernel) (sa_cons (se_op or_mul (se_op or_mod (se_callTy cr_int (by rfl) T.z_int (by decide +kernel) (sa_cons (se_op or_mul (se_var (pv 5)) (se_var (pv 5))) sa_nil)) se_int) se_int) sa_nil)) se_int))
  (ss_one (ss_ret (se_op or_mod (se_callTy cr_int (by rfl) T.z_int (by decide +kernel) (sa_cons (se_op or_fdiv (se_var (pv 6)) se_int) sa_nil)) (se_var (pv 1)))))))))
theorem sc__law_some : FnScope ["bag", "things"] ["bag", "things"] (defScope (topS 35)) := ⟨rfl, rfl, rfl, by decide +kernel, rfl, by decide +kernel, by decide +kernel⟩
theorem cal__law_some {P : Program} {w : World} {K : PySem.W.Frag} {mg : Str → Option Value} {base : Heap} (T : Mo K mg) : CalG P w K mg base 2 "_law_some" 2 f__law_some := by
  obtain ⟨f, fd, F, g, b⟩ := T.d__law_some
  have sc := sc__law_some
  have C__law_take : CalG P w K mg base 1 "_law_take" 2 f__law_take := cal__law_take T
  refine ⟨f, fd, _, fn_ok (k := 1) (b := b__law_some) F sc rfl fun cdv A outer s H E Pd hg hr => ?_, g, F.kp, b⟩
  exact (ss_one (ss_ret (se_ix (se_var (pv 1)) (se_callG (C__law_take.mono) hg hr (takes_of rfl rfl rfl rfl) (by rfl) (sa_cons (se_var (pv 0)) (sa_cons (se_callB cr_len (by rfl) T.z_len (by decide +kernel) (sa_cons (se_var (pv 1)) sa_nil)) sa_nil)) (mCons_len (mCons_len mNil_len))))))
def l__law_drawn_1 : MS :=
  (mSet 1 (mTup (mCons (mC (.str "again")) (mCons (mVar 1) (mCons (mTup (mCons (mC (.str "quiet")) mNil)) mNil)))))
def b__law_drawn : MS :=
  (mSeq (mSet 1 (mTup (mCons (mC (.str "quiet")) mNil)))
  (mSeq (mFor (.nm 2) (mRg1 (mCons (mCall f__law_take (mCons (mVar 0) (mCons (mC (.int 63)) mNil))) mNil)) l__law_drawn_1)
  (mSeq (mSet 3 (mLst (mCons (mC (.int 0)) (mCons (mC (.int 1)) (mCons (m1 negF (mC (.int 1))) (mCons (mC (.bl true)) (mCons (mC .non) (mCons (mC (.str "")) (mCons (mC (.str "a")) (mCons (mC (.str "row")) (mCons (mC (.str "a1")) (mCons (mC (.str "A")) (mCons (mC (.str "abcdefgh")) (mCons (mC (.str "abcdefghi")) (mCons (mC (.str "1a")) (mCons (mTup mNil) (mCons (mLst mNil) (mCons (mTup (mCons (mC (.str "a")) mNil)) (mCons (mTup (mCons (mC (.str "a")) (mCons (mC (.str "a")) mNil))) (mCons (mTup (mCons (mC (.str "b")) (mCons (mC (.str "a")) mNil))) mNil))))))))))))))))))))
  (mSeq (mSet 3 (m2 addF (mVar 3) (mLst (mCons (mTup (mCons (mC (.str "a")) (mCons (mC (.str "b")) mNil))) (mCons (mLst (mCons (mC (.str "a")) mNil)) (mCons (m2 mulF (mTup (mCons (mC (.str "a")) mNil)) (mC (.int 400))) (mCons (m2 mulF (mTup (mCons (mC (.str "a")) mNil)) (mC (.int 401))) (mCons (mTup (mCons (mC (.int 1)) (mCons (mC (.int 2)) mNil))) (mCons (mTup (mCons (mC (.int 2)) (mCons (mC (.int 4)) mNil))) (mCons (mTup (mCons (mC (.int 0)) (mCons (mC (.int 1)) mNil))) (mCons (mTup (mCons (mC (.int 0)) (mCons (mC (.int 2)) mNil))) (mCons (mTup (mCons (mC (.int 1)) (mCons (mC (.int 0)) mNil))) (mCons (mTup (mCons (mC (.bl true)) (mCons (mC (.int 2)) mNil))) (mCons (mVar 1) mNil))))))))))))))
  (mSeq (mSet 3 (m2 addF (mVar 3) (mLst (mCons (mTup (mCons (mC (.str "work")) (mCons (mC (.str "a")) mNil))) (mCons (mTup (mCons (mC (.str "work")) (mCons (mC (.str "row")) mNil))) (mCons (mTup (mCons (mC (.str "work")) mNil)) (mCons (mTup (mCons (mC (.str "quiet")) mNil)) (mCons (mTup (mCons (mC (.str "quiet")) (mCons (mC (.int 1)) mNil))) (mCons (mTup (mCons (mC (.str "row")) (mCons (mTup (mCons (mC (.str "quiet")) mNil)) (mCons (mTup (mCons (mC (.str "work")) (mCons (mC (.str "a")) mNil))) mNil)))) (mCons (mTup (mCons (mC (.str "row")) (mCons (mTup (mCons (mC (.str "quiet")) mNil)) mNil))) mNil))))))))))
  (mSeq (mSet 3 (m2 addF (mVar 3) (mLst (mCons (mTup (mCons (mC (.str "again")) (mCons (mTup (mCons (mC (.str "quiet")) mNil)) (mCons (mTup (mCons (mC (.str "quiet")) mNil)) mNil)))) (mCons (mTup (mCons (mC (.str "again")) (mCons (mTup (mCons (mC (.str "quiet")) mNil)) mNil))) (mCons (mTup (mCons (mC (.str "one")) (mCons (mC (.str "a")) (mCons (mC (.str "b")) mNil)))) (mCons (mLst (mCons (mC (.str "quiet")) mNil)) (mCons (mTup (mCons (mTup (mCons (mTup (mCons (mC (.str "a")) mNil)) (mCons (mC (.int 1)) mNil))) mNil)) (mCons (mTup (mCons (mTup (mCons (mTup (mCons (mC (.str "a")) mNil)) (mCons (mC (.int 0)) mNil))) mNil)) mNil)))))))))
  (mSeq (mSet 3 (m2 addF (mVar 3) (mLst (mCons (mTup (mCons (mTup (mCons (mTup (mCons (mC (.str "a")) mNil)) (mCons (mC (.bl true)) mNil))) mNil)) (mCons (mTup (mCons (mTup (mCons (mTup mNil) (mCons (mC (.int 3)) mNil))) (mCons (mTup (mCons (mTup mNil) (mCons (mC (.int 3)) mNil))) mNil))) (mCons (mTup (mCons (mTup (mCons (mLst (mCons (mC (.str "a")) mNil)) (mCons (mC (.int 1)) mNil))) mNil)) (mCons (mTup (mCons (mTup (mCons (mTup mNil) (mCons (mC (.int 1)) mNil))) mNil)) (mCons (mTup (mCons (mTup (mCons (mTup (mCons (mTup (mCons (mC (.str "a")) (mCons (mC (.int 0)) mNil))) mNil)) (mCons (mC (.int 1)) mNil))) mNil)) (mCons (mTup (mCons (mTup (mCons (mTup (mCons (mTup (mCons (mC (.str "a")) (mCons (m1 negF (mC (.int 1))) mNil))) mNil)) (mCons (mC (.int 1)) mNil))) mNil)) (mCons (mTup (mCons (mTup (mCons (mTup mNil) (mCons (mC (.int 2)) mNil))) mNil)) mNil))))))))))
  (mRet (mCall f__law_some (mCons (mVar 0) (mCons (mVar 3) mNil)))))))))))
def f__law_drawn : FM := mFn 4 (b__law_drawn)
theorem sc__law_drawn : FnScope ["bag", "deep", "lap", "some"] ["bag"] (defScope (topS 45)) := ⟨rfl, rfl, rfl, by decide +kernel, rfl, by decide +kernel, by decide +kernel⟩
theorem cal__law_drawn {P : Program} {w : World} {K : PySem.W.Frag} {mg : Str → Option Value} {base : Heap} (T : Mo K mg) : CalG P w K mg base 3 "_law_drawn" 1 f__law_drawn := by
  obtain ⟨f, fd, F, g, b⟩ := T.d__law_drawn
  have sc := sc__law_drawn
  have C__law_some : CalG P w K mg base 2 "_law_some" 2 f__law_some := cal__law_some T
  have C__law_take : CalG P w K mg base 1 "_law_take" 2 f__law_take := cal__law_take T
  refine ⟨f, fd, _, fn_ok (k := 2) (b := b__law_drawn) F sc rfl fun cdv A outer s H E Pd hg hr => ?_, g, F.kp, b⟩
  exact (ss_cons (ss_set (i := 1) sc.nd (by rfl) (by first | exact .inl rfl | exact .inr rfl) (se_tup (sa_cons se_str sa_nil)))
  (ss_cons (ss_for (passes_of rfl) rfl (si_range1 (by rfl) T.z_range (sa_cons (se_callG (C__law_take.mono) hg hr (takes_of rfl rfl rfl rfl) (by rfl) (sa_cons (se_var (pv 0)) (sa_cons se_int sa_nil)) (mCons_len (mCons_len mNil_len))) sa_nil)) (sg_nm (i := 2) sc.nd (by rfl) (by first | exact .inl rfl | exact .inr rfl)) (ss_one (ss_set (i := 1) sc.nd (by rfl) (by first | exact .inl rfl | exact .inr rfl) (se_tup (sa_cons se_str (sa_cons (se_var (pv 1)) (sa_cons (se_tup (sa_cons se_str sa_nil)) sa_nil)))))))
  (ss_cons (ss_set (i := 3) sc.nd (by rfl) (by first | exact .inl rfl | exact .inr rfl) (se_lst (sa_cons se_int (sa_cons se_int (sa_cons (se_un or_neg se_int) (sa_cons se_bl (sa_cons se_non (sa_cons se_str (sa_cons se_str (sa_cons se_str (sa_cons se_str (sa_cons se_str (sa_cons se_str (sa_cons se_str (sa_cons se_str (sa_cons (se_tup sa_nil) (sa_cons (se_lst sa_nil) (sa_cons (se_tup (sa_cons se_str sa_nil)) (sa_cons (se_tup (sa_cons se_str (sa_cons se_str sa_nil))) (sa_cons (se_tup (sa_cons se_str (sa_cons se_str sa_nil))) sa_nil))))))))))))))))))))
  (ss_cons (ss_set (i := 3) sc.nd (by rfl) (by first | exact .inl rfl | exact .inr rfl) (se_op or_add (se_var (pv 3)) (se_lst (sa_cons (se_tup (sa_cons se_str (sa_cons se_str sa_nil))) (sa_cons (se_lst (sa_cons se_str sa_nil)) (sa_cons (se_op or_mul (se_tup (sa_cons se_str sa_nil)) se_int) (sa_cons (se_op or_mul (se_tup (sa_cons se_str sa_nil)) se_int) (sa_cons (se_tup (sa_cons se_int (sa_cons se_int sa_nil))) (sa_cons (se_tup (sa_cons se_int (sa_cons se_int sa_nil))) (sa_cons (se_tup (sa_cons se_int (sa_cons se_int sa_nil))) (sa_cons (se_tup (sa_cons se_int (sa_cons se_int sa_nil))) (sa_cons (se_tup (sa_cons se_int (sa_cons se_int sa_nil))) (sa_cons (se_tup (sa_cons se_bl (sa_cons se_int sa_nil))) (sa_cons (se_var (pv 1)) sa_nil))))))))))))))
  (ss_cons (ss_set (i := 3) sc.nd (by rfl) (by first | exact .inl rfl | exact .inr rfl) (se_op or_add (se_var (pv 3)) (se_lst (sa_cons (se_tup (sa_cons se_str (sa_cons se_str sa_nil))) (sa_cons (se_tup (sa_cons se_str (sa_cons se_str sa_nil))) (sa_cons (se_tup (sa_cons se_str sa_nil)) (sa_cons (se_tup (sa_cons se_str sa_nil)) (sa_cons (se_tup (sa_cons se_str (sa_cons se_int sa_nil))) (sa_cons (se_tup (sa_cons se_str (sa_cons (se_tup (sa_cons se_str sa_nil)) (sa_cons (se_tup (sa_cons se_str (sa_cons se_str sa_nil))) sa_nil)))) (sa_cons (se_tup (sa_cons se_str (sa_cons (se_tup (sa_cons se_str sa_nil)) sa_nil))) sa_nil))))))))))
  (ss_cons (ss_set (i := 3) sc.nd (by rfl) (by first | exact .inl rfl | exact .inr rfl) (se_op or_add (se_var (pv 3)) (se_lst (sa_cons (se_tup (sa_cons se_str (sa_cons (se_tup (sa_cons se_str sa_nil)) (sa_cons (se_tup (sa_cons se_str sa_nil)) sa_nil)))) (sa_cons (se_tup (sa_cons se_str (sa_cons (se_tup (sa_cons se_str sa_nil)) sa_nil))) (sa_cons (se_tup (sa_cons se_str (sa_cons se_str (sa_cons se_str sa_nil)))) (sa_cons (se_lst (sa_cons se_str sa_nil)) (sa_cons (se_tup (sa_cons (se_tup (sa_cons (se_tup (sa_cons se_str sa_nil)) (sa_cons se_int sa_nil))) sa_nil)) (sa_cons (se_tup (sa_cons (se_tup (sa_cons (se_tup (sa_cons se_str sa_nil)) (sa_cons se_int sa_nil))) sa_nil)) sa_nil)))))))))
  (ss_cons (ss_set (i := 3) sc.nd (by rfl) (by first | exact .inl rfl | exact .inr rfl) (se_op or_add (se_var (pv 3)) (se_lst (sa_cons (se_tup (sa_cons (se_tup (sa_cons (se_tup (sa_cons se_str sa_nil)) (sa_cons se_bl sa_nil))) sa_nil)) (sa_cons (se_tup (sa_cons (se_tup (sa_cons (se_tup sa_nil) (sa_cons se_int sa_nil))) (sa_cons (se_tup (sa_cons (se_tup sa_nil) (sa_cons se_int sa_nil))) sa_nil))) (sa_cons (se_tup (sa_cons (se_tup (sa_cons (se_lst (sa_cons se_str sa_nil)) (sa_cons se_int sa_nil))) sa_nil)) (sa_cons (se_tup (sa_cons (se_tup (sa_cons (se_tup sa_nil) (sa_cons se_int sa_nil))) sa_nil)) (sa_cons (se_tup (sa_cons (se_tup (sa_cons (se_tup (sa_cons (se_tup (sa_cons se_str (sa_cons se_int sa_nil))) sa_nil)) (sa_cons se_int sa_nil))) sa_nil)) (sa_cons (se_tup (sa_cons (se_tup (sa_cons (se_tup (sa_cons (se_tup (sa_cons se_str (sa_cons (se_un or_neg se_int) sa_nil))) sa_nil)) (sa_cons se_int sa_nil))) sa_nil)) (sa_cons (se_tup (sa_cons (se_tup (sa_cons (se_tup sa_nil) (sa_cons se_int sa_nil))) sa_nil)) sa_nil))))))))))
  (ss_one (ss_ret (se_callG (C__law_some.mono) hg hr (takes_of rfl rfl rfl rfl) (by rfl) (sa_cons (se_var (pv 0)) (sa_cons (se_var (pv 3)) sa_nil)) (mCons_len (mCons_len mNil_len))))))))))))
def b_is_integer : MS :=
  (mRet (mAndV (mBf isinstF (mCons (mVar 0) (mCons (mC (.ty "int")) mNil))) (mNotV (mBf isinstF (mCons (mVar 0) (mCons (mC (.ty "bool")) mNil))))))
def f_is_integer : FM := mFn 1 (b_is_integer)
theorem sc_is_integer : FnScope ["thing"] ["thing"] (defScope (topS 16)) := ⟨rfl, rfl, rfl, by decide +kernel, rfl, by decide +kernel, by decide +kernel⟩
theorem cal_is_integer {P : Program} {w : World} {K : PySem.W.Frag} {mg : Str → Option Value} {base : Heap} (T : Mo K mg) : CalG P w K mg base 1 "is_integer" 1 f_is_integer := by
  obtain ⟨f, fd, F, g, b⟩ := T.d_is_integer
  have sc := sc_is_integer
  refine ⟨f, fd, _, fn_ok (k := 0) (b := b_is_integer) F sc rfl fun cdv A outer s H E Pd hg hr => ?_, g, F.kp, b⟩
  exact (ss_one (ss_ret (se_and (se_callB cr_isinst (by rfl) T.z_isinstance (by decide +kernel) (sa_cons (se_var (pv 0)) (sa_cons (se_bltn (by rfl) T.z_int (by decide +kernel)) sa_nil))) (se_one (se_not (se_callB cr_isinst (by rfl) T.z_isinstance (by decide +kernel) (sa_cons (se_var (pv 0)) (sa_cons (se_bltn (by rfl) T.z_bool (by decide +kernel)) sa_nil))))))))
def b_is_count : MS :=
  (mRet (mAndV (mCall f_is_integer (mCons (mVar 0) mNil)) (m2 geF (mVar 0) (mC (.int 0)))))
def f_is_count : FM := mFn 1 (b_is_count)
theorem sc_is_count : FnScope ["thing"] ["thing"] (defScope (topS 17)) := ⟨rfl, rfl, rfl, by decide +kernel, rfl, by decide +kernel, by decide +kernel⟩
theorem cal_is_count {P : Program} {w : World} {K : PySem.W.Frag} {mg : Str → Option Value} {base : Heap} (T : Mo K mg) : CalG P w K mg base 2 "is_count" 1 f_is_count := by
  obtain ⟨f, fd, F, g, b⟩ := T.d_is_count
  have sc := sc_is_count
  have C_is_integer : CalG P w K mg base 1 "is_integer" 1 f_is_integer := cal_is_integer T
  refine ⟨f, fd, _, fn_ok (k := 1) (b := b_is_count) F sc rfl fun cdv A outer s H E Pd hg hr => ?_, g, F.kp, b⟩
  exact (ss_one (ss_ret (se_and (se_callG (C_is_integer.mono) hg hr (takes_of rfl rfl rfl rfl) (by rfl) (sa_cons (se_var (pv 0)) sa_nil) (mCons_len mNil_len)) (se_one (se_cmp or_ge (se_var (pv 0)) se_int)))))
def b_is_name : MS :=
  (mSeq (mIfS (mOr (mNot (mTru (mBf isinstF (mCons (mVar 0) (mCons (mC (.ty "str")) mNil))))) (mOr (mNot (mB (mChain leF leF (mC (.int 1)) (mBf lenF (mCons (mVar 0) mNil)) (mC c_MOST_LETTERS)))) (mB (m2 (inF true) (m2 ixF (mVar 0) (mC (.int 0))) (mC c_LETTERS))))) (mRet (mC (.bl false))) mSkip)
  (mRet (mAndV (mBf (allF false) (mCons (mLcE [1] (.nm 1) (mItS (mVar 0)) mYes (m2 (inF false) (mVar 1) (m2 addF (mC c_LETTERS) (mC c_DIGITS)))) mNil)) (m2 (inF true) (mVar 0) (mC c_RESERVED)))))
def f_is_name : FM := mFn 2 (b_is_name)
theorem sc_is_name : FnScope ["thing", "sign"] ["thing"] (defScope (topS 18)) := ⟨rfl, rfl, rfl, by decide +kernel, rfl, by decide +kernel, by decide +kernel⟩
theorem cal_is_name {P : Program} {w : World} {K : PySem.W.Frag} {mg : Str → Option Value} {base : Heap} (T : Mo K mg) : CalG P w K mg base 1 "is_name" 1 f_is_name := by
  obtain ⟨f, fd, F, g, b⟩ := T.d_is_name
  have sc := sc_is_name
  refine ⟨f, fd, _, fn_ok (k := 0) (b := b_is_name) F sc rfl fun cdv A outer s H E Pd hg hr => ?_, g, F.kp, b⟩
  exact (ss_cons (ss_if (st_w (sw_or (st_not (st_tru (se_callB cr_isinst (by rfl) T.z_isinstance (by decide +kernel) (sa_cons (se_var (pv 0)) (sa_cons (se_bltn (by rfl) T.z_str (by decide +kernel)) sa_nil))))) (sw_or (st_not (st_chain or_le or_le se_int (se_callB cr_len (by rfl) T.z_len (by decide +kernel) (sa_cons (se_var (pv 0)) sa_nil)) (se_gv T.c_MOST_LETTERS (by rfl)))) (sw_or1 (st_cmp (or_notIn hr) (se_ix (se_var (pv 0)) se_int) (se_gv T.c_LETTERS (by rfl))))))) (ss_one (ss_ret se_bl)) ss_nil)
  (ss_one (ss_ret (se_and (se_callB (cr_all' rfl) (by rfl) T.z_all (by decide +kernel) (sa_cons (se_lc (own := [("sign", 1)]) rfl sc.nd (blkOk_by (show blkC ["thing", "sign"] (defScope (topS 18)) _ [("sign", 1)] = true from by decide +kernel)) (by decide +kernel) (si_str (se_var (pv 0))) (fun _ _ _ _ _ => (sg_nm (i := 1) sc.nd (by rfl) (by first | exact .inl rfl | exact .inr rfl))) (fun _ _ _ _ _ => sts_nil) (fun _ _ _ _ _ => (se_cmp (or_in hr) (se_var (pv 1)) (se_op or_add (se_gv T.c_LETTERS (by rfl)) (se_gv T.c_DIGITS (by rfl)))))) sa_nil)) (se_one (se_cmp (or_notIn hr) (se_var (pv 0)) (se_gv T.c_RESERVED (by rfl))))))))
def b_is_tuple_of (tb : List (Str × FM)) : MS :=
  (mRet (mAndV (mBf isinstF (mCons (mVar 0) (mCons (mC (.ty "tuple")) mNil))) (mBf (allF false) (mCons (mLcE [2] (.nm 2) (mItT (mVar 0)) mYes (mCallV 1 tb (mCons (mVar 2) mNil))) mNil))))
def f_is_tuple_of (tb : List (Str × FM)) : FM := mFn 3 (b_is_tuple_of tb)
theorem sc_is_tuple_of : FnScope ["thing", "is_item", "item"] ["thing", "is_item"] (defScope (topS 19)) := ⟨rfl, rfl, rfl, by decide +kernel, rfl, by decide +kernel, by decide +kernel⟩
theorem cal_is_tuple_of {P : Program} {w : World} {K : PySem.W.Frag} {mg : Str → Option Value} {base : Heap} (T : Mo K mg) (tb : List (Str × FM)) (k : Nat) (ht : ∀ y fm, tb.lookup y = some fm → CalG P w K mg base k y 1 fm) : CalG P w K mg base (k + 1) "is_tuple_of" 2 (f_is_tuple_of tb) := by
  obtain ⟨f, fd, F, g, b⟩ := T.d_is_tuple_of
  have sc := sc_is_tuple_of
  refine ⟨f, fd, _, fn_ok (k := k) (b := b_is_tuple_of tb) F sc rfl fun cdv A outer s H E Pd hg hr => ?_, g, F.kp, b⟩
  exact (ss_one (ss_ret (se_and (se_callB cr_isinst (by rfl) T.z_isinstance (by decide +kernel) (sa_cons (se_var (pv 0)) (sa_cons (se_bltn (by rfl) T.z_tuple (by decide +kernel)) sa_nil))) (se_one (se_callB (cr_all' rfl) (by rfl) T.z_all (by decide +kernel) (sa_cons (se_lc (own := [("item", 2)]) rfl sc.nd (blkOk_by (show blkC ["thing", "is_item", "item"] (defScope (topS 19)) _ [("item", 2)] = true from by decide +kernel)) (by decide +kernel) (si_tup (se_var (pv 0))) (fun _ _ _ _ _ => (sg_nm (i := 2) sc.nd (by rfl) (by first | exact .inl rfl | exact .inr rfl))) (fun _ _ _ _ _ => sts_nil) (fun _ _ _ _ _ => (se_callV ht hg hr takes0 (sa_cons (se_var (pv 2)) sa_nil) (mCons_len mNil_len)))) sa_nil))))))
def b_is_case : MS :=
  (mRet (mAndV (mCall (f_is_tuple_of [("is_name", f_is_name)]) (mCons (mVar 0) (mCons (mC (.glo "is_name")) mNil))) (m2 leF (mBf lenF (mCons (mVar 0) mNil)) (mC c_MOST_NAMES))))
def f_is_case : FM := mFn 1 (b_is_case)
theorem sc_is_case : FnScope ["thing"] ["thing"] (defScope (topS 22)) := ⟨rfl, rfl, rfl, by decide +kernel, rfl, by decide +kernel, by decide +kernel⟩
theorem cal_is_case {P : Program} {w : World} {K : PySem.W.Frag} {mg : Str → Option Value} {base : Heap} (T : Mo K mg) : CalG P w K mg base 3 "is_case" 1 f_is_case := by
  obtain ⟨f, fd, F, g, b⟩ := T.d_is_case
  have sc := sc_is_case
  have C_is_name : CalG P w K mg base 1 "is_name" 1 f_is_name := cal_is_name T
  refine ⟨f, fd, _, fn_ok (k := 2) (b := b_is_case) F sc rfl fun cdv A outer s H E Pd hg hr => ?_, g, F.kp, b⟩
  exact (ss_one (ss_ret (se_and (se_callG ((cal_is_tuple_of T _ _ (tb_one C_is_name)).mono) hg hr (takes_of rfl rfl rfl rfl) (by rfl) (sa_cons (se_var (pv 0)) (sa_cons (se_defG T.d_is_name (by rfl)) sa_nil)) (mCons_len (mCons_len mNil_len))) (se_one (se_cmp or_le (se_callB cr_len (by rfl) T.z_len (by decide +kernel) (sa_cons (se_var (pv 0)) sa_nil)) (se_gv T.c_MOST_NAMES (by rfl)))))))
def l_divisor_of_1 : MS :=
  (mPar 0 1 (mCons (mVar 1) (mCons (m2 modF (mVar 0) (mVar 1)) mNil)))
def b_divisor_of : MS :=
  (mSeq (mPar 0 1 (mCons (mBf absF (mCons (mVar 0) mNil)) (mCons (mBf absF (mCons (mVar 1) mNil)) mNil)))
  (mSeq (mWhileL (mB (m2 gtF (mVar 1) (mC (.int 0)))) l_divisor_of_1 500)
  (mRet (mVar 0))))
def f_divisor_of : FM := mFn 2 (b_divisor_of)
theorem sc_divisor_of : FnScope ["one", "other"] ["one", "other"] (defScope (topS 23)) := ⟨rfl, rfl, rfl, by decide +kernel, rfl, by decide +kernel, by decide +kernel⟩
theorem cal_divisor_of {P : Program} {w : World} {K : PySem.W.Frag} {mg : Str → Option Value} {base : Heap} (T : Mo K mg) : CalG P w K mg base 1 "divisor_of" 2 f_divisor_of := by
  obtain ⟨f, fd, F, g, b⟩ := T.d_divisor_of
  have sc := sc_divisor_of
  refine ⟨f, fd, _, fn_ok (k := 0) (b := b_divisor_of) F sc rfl fun cdv A outer s H E Pd hg hr => ?_, g, F.kp, b⟩
  exact (ss_cons (ss_par (i := 0) (j := 1) rfl sc.nd (by rfl) (by rfl) (by decide) (by rfl) (by rfl) (sa_cons (se_callB cr_abs (by rfl) T.z_abs (by decide +kernel) (sa_cons (se_var (pv 0)) sa_nil)) (sa_cons (se_callB cr_abs (by rfl) T.z_abs (by decide +kernel) (sa_cons (se_var (pv 1)) sa_nil)) sa_nil)) (by rfl))
  (ss_cons (ss_while 500 (passes_of rfl) (st_cmp or_gt (se_var (pv 1)) se_int) (ss_one (ss_par (i := 0) (j := 1) rfl sc.nd (by rfl) (by rfl) (by decide) (by rfl) (by rfl) (sa_cons (se_var (pv 1)) (sa_cons (se_op or_mod (se_var (pv 0)) (se_var (pv 1))) sa_nil)) (by rfl))))
  (ss_one (ss_ret (se_var (pv 0))))))
def b_is_fraction : MS :=
  (mSeq (mIfS (mOr (mNot (mTru (mBf isinstF (mCons (mVar 0) (mCons (mC (.ty "tuple")) mNil))))) (mOr (mB (m2 (eqF true) (mBf lenF (mCons (mVar 0) mNil)) (mC (.int 2)))) (mNot (mTru (mBf (allF false) (mCons (mLcE [1] (.nm 1) (mItT (mVar 0)) mYes (mCall f_is_integer (mCons (mVar 1) mNil))) mNil)))))) (mRet (mC (.bl false))) mSkip)
  (mRet (mAndV (m2 gtF (m2 ixF (mVar 0) (mC (.int 1))) (mC (.int 0))) (m2 (eqF false) (mCall f_divisor_of (mCons (m2 ixF (mVar 0) (mC (.int 0))) (mCons (m2 ixF (mVar 0) (mC (.int 1))) mNil))) (mC (.int 1))))))
def f_is_fraction : FM := mFn 2 (b_is_fraction)
theorem sc_is_fraction : FnScope ["thing", "one"] ["thing"] (defScope (topS 24)) := ⟨rfl, rfl, rfl, by decide +kernel, rfl, by decide +kernel, by decide +kernel⟩
theorem cal_is_fraction {P : Program} {w : World} {K : PySem.W.Frag} {mg : Str → Option Value} {base : Heap} (T : Mo K mg) : CalG P w K mg base 2 "is_fraction" 1 f_is_fraction := by
  obtain ⟨f, fd, F, g, b⟩ := T.d_is_fraction
  have sc := sc_is_fraction
  have C_divisor_of : CalG P w K mg base 1 "divisor_of" 2 f_divisor_of := cal_divisor_of T
  have C_is_integer : CalG P w K mg base 1 "is_integer" 1 f_is_integer := cal_is_integer T
  refine ⟨f, fd, _, fn_ok (k := 1) (b := b_is_fraction) F sc rfl fun cdv A outer s H E Pd hg hr => ?_, g, F.kp, b⟩
  exact (ss_cons (ss_if (st_w (sw_or (st_not (st_tru (se_callB cr_isinst (by rfl) T.z_isinstance (by decide +kernel) (sa_cons (se_var (pv 0)) (sa_cons (se_bltn (by rfl) T.z_tuple (by decide +kernel)) sa_nil))))) (sw_or (st_cmp (or_ne hr) (se_callB cr_len (by rfl) T.z_len (by decide +kernel) (sa_cons (se_var (pv 0)) sa_nil)) se_int) (sw_or1 (st_not (st_tru (se_callB (cr_all' rfl) (by rfl) T.z_all (by decide +kernel) (sa_cons (se_lc (own := [("one", 1)]) rfl sc.nd (blkOk_by (show blkC ["thing", "one"] (defScope (topS 24)) _ [("one", 1)] = true from by decide +kernel)) (by decide +kernel) (si_tup (se_var (pv 0))) (fun _ _ _ _ _ => (sg_nm (i := 1) sc.nd (by rfl) (by first | exact .inl rfl | exact .inr rfl))) (fun _ _ _ _ _ => sts_nil) (fun _ _ _ _ _ => (se_callG (C_is_integer.mono) hg hr takes0 (by rfl) (sa_cons (se_var (pv 1)) sa_nil) (mCons_len mNil_len)))) sa_nil)))))))) (ss_one (ss_ret se_bl)) ss_nil)
  (ss_one (ss_ret (se_and (se_cmp or_gt (se_ix (se_var (pv 0)) se_int) se_int) (se_one (se_cmp (or_eq hr) (se_callG (C_divisor_of.mono) hg hr (takes_of rfl rfl rfl rfl) (by rfl) (sa_cons (se_ix (se_var (pv 0)) se_int) (sa_cons (se_ix (se_var (pv 0)) se_int) sa_nil)) (mCons_len (mCons_len mNil_len))) se_int))))))
def b_inner_in : MS :=
  (mSeq (mIfS (mOr (mNot (mTru (mBf isinstF (mCons (mVar 0) (mCons (mC (.ty "tuple")) mNil))))) (mOr (mB (m2 (eqF false) (mVar 0) (mTup mNil))) (mNot (mTru (mBf isinstF (mCons (m2 ixF (mVar 0) (mC (.int 0))) (mCons (mC (.ty "str")) mNil))))))) (mRet (mC .non)) mSkip)
  (mSeq (mIfS (mOr (mAnd (mB (m2 (inF false) (m2 ixF (mVar 0) (mC (.int 0))) (mC c_MANY))) (mB (m2 gtF (mBf lenF (mCons (mVar 0) mNil)) (mC (.int 2))))) (mAnd (mB (m2 (eqF false) (m2 ixF (mVar 0) (mC (.int 0))) (mC (.str "again")))) (mB (m2 (eqF false) (mBf lenF (mCons (mVar 0) mNil)) (mC (.int 3)))))) (mRet (mSl (mVar 0) (mSo (mC (.int 1))) mNo)) mSkip)
  (mSeq (mIfS (mB (m2 (eqF false) (m2 ixF (mVar 0) (mC (.int 0))) (mC (.str "work")))) (mRet (mIf (mAnd (mB (m2 (eqF false) (mBf lenF (mCons (mVar 0) mNil)) (mC (.int 2)))) (mTru (mCall f_is_name (mCons (m2 ixF (mVar 0) (mC (.int 1))) mNil)))) (mTup mNil) (mC .non))) mSkip)
  (mRet (mIf (mB (m2 (eqF false) (mVar 0) (mTup (mCons (mC (.str "quiet")) mNil)))) (mTup mNil) (mC .non))))))
def f_inner_in : FM := mFn 1 (b_inner_in)
theorem sc_inner_in : FnScope ["thing"] ["thing"] (defScope (topS 25)) := ⟨rfl, rfl, rfl, by decide +kernel, rfl, by decide +kernel, by decide +kernel⟩
theorem cal_inner_in {P : Program} {w : World} {K : PySem.W.Frag} {mg : Str → Option Value} {base : Heap} (T : Mo K mg) : CalG P w K mg base 2 "inner_in" 1 f_inner_in := by
  obtain ⟨f, fd, F, g, b⟩ := T.d_inner_in
  have sc := sc_inner_in
  have C_is_name : CalG P w K mg base 1 "is_name" 1 f_is_name := cal_is_name T
  refine ⟨f, fd, _, fn_ok (k := 1) (b := b_inner_in) F sc rfl fun cdv A outer s H E Pd hg hr => ?_, g, F.kp, b⟩
  exact (ss_cons (ss_if (st_w (sw_or (st_not (st_tru (se_callB cr_isinst (by rfl) T.z_isinstance (by decide +kernel) (sa_cons (se_var (pv 0)) (sa_cons (se_bltn (by rfl) T.z_tuple (by decide +kernel)) sa_nil))))) (sw_or (st_cmp (or_eq hr) (se_var (pv 0)) (se_tup sa_nil)) (sw_or1 (st_not (st_tru (se_callB cr_isinst (by rfl) T.z_isinstance (by decide +kernel) (sa_cons (se_ix (se_var (pv 0)) se_int) (sa_cons (se_bltn (by rfl) T.z_str (by decide +kernel)) sa_nil))))))))) (ss_one (ss_ret se_non)) ss_nil)
  (ss_cons (ss_if (st_w (sw_or (st_w (sw_and (st_cmp (or_in hr) (se_ix (se_var (pv 0)) se_int) (se_gv T.c_MANY (by rfl))) (sw_and1 (st_cmp or_gt (se_callB cr_len (by rfl) T.z_len (by decide +kernel) (sa_cons (se_var (pv 0)) sa_nil)) se_int)))) (sw_or1 (st_w (sw_and (st_cmp (or_eq hr) (se_ix (se_var (pv 0)) se_int) se_str) (sw_and1 (st_cmp (or_eq hr) (se_callB cr_len (by rfl) T.z_len (by decide +kernel) (sa_cons (se_var (pv 0)) sa_nil)) se_int))))))) (ss_one (ss_ret (se_slice (se_var (pv 0)) (so_some se_int) so_none))) ss_nil)
  (ss_cons (ss_if (st_cmp (or_eq hr) (se_ix (se_var (pv 0)) se_int) se_str) (ss_one (ss_ret (se_ifExp (st_w (sw_and (st_cmp (or_eq hr) (se_callB cr_len (by rfl) T.z_len (by decide +kernel) (sa_cons (se_var (pv 0)) sa_nil)) se_int) (sw_and1 (st_tru (se_callG (C_is_name.mono) hg hr (takes_of rfl rfl rfl rfl) (by rfl) (sa_cons (se_ix (se_var (pv 0)) se_int) sa_nil) (mCons_len mNil_len)))))) (se_tup sa_nil) se_non))) ss_nil)
  (ss_one (ss_ret (se_ifExp (st_cmp (or_eq hr) (se_var (pv 0)) (se_tup (sa_cons se_str sa_nil))) (se_tup sa_nil) se_non))))))
def l_is_tree_form_1 : MS :=
  (mSeq (mAsg (.tp [(.nm 2), (.nm 3)]) (mMtL popF (mVar 1) mNil))
  (mSeq (mSet 4 (mCall f_inner_in (mCons (mVar 2) mNil)))
  (mSeq (mIfS (mOr (mB (m2 (isF false) (mVar 4) (mC .non))) (mB (m2 gtF (mVar 3) (mC c_MOST_DEEP)))) (mRet (mC (.bl false))) mSkip)
  (mDrop (mMtL extendF (mVar 1) (mCons (mLcE [5] (.nm 5) (mItT (mVar 4)) mYes (mTup (mCons (mVar 5) (mCons (m2 addF (mVar 3) (mC (.int 1))) mNil)))) mNil))))))
def b_is_tree_form : MS :=
  (mSeq (mNewL 1 (mCons (mTup (mCons (mVar 0) (mCons (mC (.int 1)) mNil))) mNil))
  (mSeq (mWhileL (mB (m2 (eqF true) (mVar 1) (mLst mNil))) l_is_tree_form_1 500)
  (mRet (mC (.bl true)))))
def f_is_tree_form : FM := mFn 6 (b_is_tree_form)
theorem sc_is_tree_form : FnScope ["thing", "waiting", "one", "deep", "inner", "part"] ["thing"] (defScope (topS 26)) := ⟨rfl, rfl, rfl, by decide +kernel, rfl, by decide +kernel, by decide +kernel⟩
theorem cal_is_tree_form {P : Program} {w : World} {K : PySem.W.Frag} {mg : Str → Option Value} {base : Heap} (T : Mo K mg) : CalG P w K mg base 3 "is_tree_form" 1 f_is_tree_form := by
  obtain ⟨f, fd, F, g, b⟩ := T.d_is_tree_form
  have sc := sc_is_tree_form
  have C_inner_in : CalG P w K mg base 2 "inner_in" 1 f_inner_in := cal_inner_in T
  refine ⟨f, fd, _, fn_ok (k := 2) (b := b_is_tree_form) F sc rfl fun cdv A outer s H E Pd hg hr => ?_, g, F.kp, b⟩
  exact (ss_cons (ss_newL (i := 1) sc.nd (by rfl) (by first | exact .inl rfl | exact .inr rfl) (sa_cons (se_tup (sa_cons (se_var (pv 0)) (sa_cons se_int sa_nil))) sa_nil))
  (ss_cons (ss_while 500 (passes_of rfl) (st_cmp (or_ne hr) (se_var (pv 1)) (se_lst sa_nil)) (ss_cons (ss_asg (se_bmL0 PySem.F.slot_list_pop PySem.F.type_list_pop mm_pop (se_var (pv 1))) (sg_tp rfl (sgs_cons (sg_nm (i := 2) sc.nd (by rfl) (by first | exact .inl rfl | exact .inr rfl)) (sgs_cons (sg_nm (i := 3) sc.nd (by rfl) (by first | exact .inl rfl | exact .inr rfl)) sgs_nil))))
  (ss_cons (ss_set (i := 4) sc.nd (by rfl) (by first | exact .inl rfl | exact .inr rfl) (se_callG (C_inner_in.mono) hg hr (takes_of rfl rfl rfl rfl) (by rfl) (sa_cons (se_var (pv 2)) sa_nil) (mCons_len mNil_len)))
  (ss_cons (ss_if (st_w (sw_or (st_cmp or_is (se_var (pv 4)) se_non) (sw_or1 (st_cmp or_gt (se_var (pv 3)) (se_gv T.c_MOST_DEEP (by rfl)))))) (ss_one (ss_ret se_bl)) ss_nil)
  (ss_one (ss_expr (se_bmL PySem.F.slot_list_extend PySem.F.type_list_extend mm_extend (se_var (pv 1)) (sa_cons (se_lc (own := [("part", 5)]) rfl sc.nd (blkOk_by (show blkC ["thing", "waiting", "one", "deep", "inner", "part"] (defScope (topS 26)) _ [("part", 5)] = true from by decide +kernel)) (by decide +kernel) (si_tup (se_var (pv 4))) (fun _ _ _ _ _ => (sg_nm (i := 5) sc.nd (by rfl) (by first | exact .inl rfl | exact .inr rfl))) (fun _ _ _ _ _ => sts_nil) (fun _ _ _ _ _ => (se_tup (sa_cons (se_var (pv 5)) (sa_cons (se_op or_add (se_var (pv 3)) se_int) sa_nil))))) sa_nil))))))))
  (ss_one (ss_ret se_bl))))
def b__law_int : MS :=
  (mRet (mAndV (mBf isinstF (mCons (mVar 0) (mCons (mC (.ty "int")) mNil))) (mNotV (mBf isinstF (mCons (mVar 0) (mCons (mC (.ty "bool")) mNil))))))
def f__law_int : FM := mFn 1 (b__law_int)
theorem sc__law_int : FnScope ["thing"] ["thing"] (defScope (topS 37)) := ⟨rfl, rfl, rfl, by decide +kernel, rfl, by decide +kernel, by decide +kernel⟩
theorem cal__law_int {P : Program} {w : World} {K : PySem.W.Frag} {mg : Str → Option Value} {base : Heap} (T : Mo K mg) : CalG P w K mg base 1 "_law_int" 1 f__law_int := by
  obtain ⟨f, fd, F, g, b⟩ := T.d__law_int
  have sc := sc__law_int
  refine ⟨f, fd, _, fn_ok (k := 0) (b := b__law_int) F sc rfl fun cdv A outer s H E Pd hg hr => ?_, g, F.kp, b⟩
  exact (ss_one (ss_ret (se_and (se_callB cr_isinst (by rfl) T.z_isinstance (by decide +kernel) (sa_cons (se_var (pv 0)) (sa_cons (se_bltn (by rfl) T.z_int (by decide +kernel)) sa_nil))) (se_one (se_not (se_callB cr_isinst (by rfl) T.z_isinstance (by decide +kernel) (sa_cons (se_var (pv 0)) (sa_cons (se_bltn (by rfl) T.z_bool (by decide +kernel)) sa_nil))))))))
def b__law_is_name : MS :=
  (mSeq (mSet 1 (mLst (mCons (mC (.str "again")) (mCons (mC (.str "beside")) (mCons (mC (.str "case")) (mCons (mC (.str "end")) (mCons (mC (.str "log")) (mCons (mC (.str "of")) (mCons (mC (.str "one")) (mCons (mC (.str "quiet")) (mCons (mC (.str "row")) (mCons (mC (.str "times")) (mCons (mC (.str "tree")) (mCons (mC (.str "work")) mNil))))))))))))))
  (mSeq (mIfS (mOr (mNot (mTru (mBf isinstF (mCons (mVar 0) (mCons (mC (.ty "str")) mNil))))) (mOr (mB (m2 ltF (mBf lenF (mCons (mVar 0) mNil)) (mC (.int 1)))) (mOr (mB (m2 gtF (mBf lenF (mCons (mVar 0) mNil)) (mC (.int 8)))) (mB (m2 (inF false) (mVar 0) (mVar 1)))))) (mRet (mC (.bl false))) mSkip)
  (mSeq (mSet 2 (mC (.str "abcdefghijklmnopqrstuvwxyz")))
  (mRet (mAndV (m2 (inF false) (m2 ixF (mVar 0) (mC (.int 0))) (mVar 2)) (m2 (eqF false) (mLcE [3] (.nm 3) (mItS (mVar 0)) (mB (m2 (inF true) (mVar 3) (m2 addF (mVar 2) (mC (.str "0123456789"))))) (mVar 3)) (mLst mNil)))))))
def f__law_is_name : FM := mFn 4 (b__law_is_name)
theorem sc__law_is_name : FnScope ["thing", "words", "letters", "sign"] ["thing"] (defScope (topS 38)) := ⟨rfl, rfl, rfl, by decide +kernel, rfl, by decide +kernel, by decide +kernel⟩
theorem cal__law_is_name {P : Program} {w : World} {K : PySem.W.Frag} {mg : Str → Option Value} {base : Heap} (T : Mo K mg) : CalG P w K mg base 1 "_law_is_name" 1 f__law_is_name := by
  obtain ⟨f, fd, F, g, b⟩ := T.d__law_is_name
  have sc := sc__law_is_name
  refine ⟨f, fd, _, fn_ok (k := 0) (b := b__law_is_name) F sc rfl fun cdv A outer s H E Pd hg hr => ?_, g, F.kp, b⟩
  exact (ss_cons (ss_set (i := 1) sc.nd (by rfl) (by first | exact .inl rfl | exact .inr rfl) (se_lst (sa_cons se_str (sa_cons se_str (sa_cons se_str (sa_cons se_str (sa_cons se_str (sa_cons se_str (sa_cons se_str (sa_cons se_str (sa_cons se_str (sa_cons se_str (sa_cons se_str (sa_cons se_str sa_nil))))))))))))))
  (ss_cons (ss_if (st_w (sw_or (st_not (st_tru (se_callB cr_isinst (by rfl) T.z_isinstance (by decide +kernel) (sa_cons (se_var (pv 0)) (sa_cons (se_bltn (by rfl) T.z_str (by decide +kernel)) sa_nil))))) (sw_or (st_cmp or_lt (se_callB cr_len (by rfl) T.z_len (by decide +kernel) (sa_cons (se_var (pv 0)) sa_nil)) se_int) (sw_or (st_cmp or_gt (se_callB cr_len (by rfl) T.z_len (by decide +kernel) (sa_cons (se_var (pv 0)) sa_nil)) se_int) (sw_or1 (st_cmp (or_in hr) (se_var (pv 0)) (se_var (pv 1)))))))) (ss_one (ss_ret se_bl)) ss_nil)
  (ss_cons (ss_set (i := 2) sc.nd (by rfl) (by first | exact .inl rfl | exact .inr rfl) se_str)
  (ss_one (ss_ret (se_and (se_cmp (or_in hr) (se_ix (se_var (pv 0)) se_int) (se_var (pv 2))) (se_one (se_cmp (or_eq hr) (se_lc (own := [("sign", 3)]) rfl sc.nd (blkOk_by (show blkC ["thing", "words", "letters", "sign"] (defScope (topS 38)) _ [("sign", 3)] = true from by decide +kernel)) (by decide +kernel) (si_str (se_var (pv 0))) (fun _ _ _ _ _ => (sg_nm (i := 3) sc.nd (by rfl) (by first | exact .inl rfl | exact .inr rfl))) (fun _ _ _ _ _ => (sts_one (st_cmp (or_notIn hr) (se_var (pv 3)) (se_op or_add (se_var (pv 2)) se_str)))) (fun _ _ _ _ _ => (se_var (pv 3)))) (se_lst sa_nil)))))))))
def b__law_is_row : MS :=
  (mRet (mAndV (mBf isinstF (mCons (mVar 0) (mCons (mC (.ty "tuple")) mNil))) (mAndV (m2 leF (mBf lenF (mCons (mVar 0) mNil)) (mVar 1)) (m2 (eqF false) (mLcE [2] (.nm 2) (mItT (mVar 0)) (mNot (mTru (mCall f__law_is_name (mCons (mVar 2) mNil)))) (mVar 2)) (mLst mNil)))))
def f__law_is_row : FM := mFn 3 (b__law_is_row)
theorem sc__law_is_row : FnScope ["thing", "most", "one"] ["thing", "most"] (defScope (topS 39)) := ⟨rfl, rfl, rfl, by decide +kernel, rfl, by decide +kernel, by decide +kernel⟩
theorem cal__law_is_row {P : Program} {w : World} {K : PySem.W.Frag} {mg : Str → Option Value} {base : Heap} (T : Mo K mg) : CalG P w K mg base 2 "_law_is_row" 2 f__law_is_row := by
  obtain ⟨f, fd, F, g, b⟩ := T.d__law_is_row
  have sc := sc__law_is_row
  have C__law_is_name : CalG P w K mg base 1 "_law_is_name" 1 f__law_is_name := cal__law_is_name T
  refine ⟨f, fd, _, fn_ok (k := 1) (b := b__law_is_row) F sc rfl fun cdv A outer s H E Pd hg hr => ?_, g, F.kp, b⟩
  exact (ss_one (ss_ret (se_and (se_callB cr_isinst (by rfl) T.z_isinstance (by decide +kernel) (sa_cons (se_var (pv 0)) (sa_cons (se_bltn (by rfl) T.z_tuple (by decide +kernel)) sa_nil))) (se_and (se_cmp or_le (se_callB cr_len (by rfl) T.z_len (by decide +kernel) (sa_cons (se_var (pv 0)) sa_nil)) (se_var (pv 1))) (se_one (se_cmp (or_eq hr) (se_lc (own := [("one", 2)]) rfl sc.nd (blkOk_by (show blkC ["thing", "most", "one"] (defScope (topS 39)) _ [("one", 2)] = true from by decide +kernel)) (by decide +kernel) (si_tup (se_var (pv 0))) (fun _ _ _ _ _ => (sg_nm (i := 2) sc.nd (by rfl) (by first | exact .inl rfl | exact .inr rfl))) (fun _ _ _ _ _ => (sts_one (st_not (st_tru (se_callG (C__law_is_name.mono) hg hr takes0 (by rfl) (sa_cons (se_var (pv 2)) sa_nil) (mCons_len mNil_len)))))) (fun _ _ _ _ _ => (se_var (pv 2)))) (se_lst sa_nil)))))))
def b__law_alike : MS :=
  (mRet (mAndV (m2 (eqF false) (mBf reprF (mCons (mVar 0) mNil)) (mBf reprF (mCons (mVar 1) mNil))) (m2 (eqF false) (mVar 0) (mVar 1))))
def f__law_alike : FM := mFn 2 (b__law_alike)
theorem sc__law_alike : FnScope ["found", "due"] ["found", "due"] (defScope (topS 36)) := ⟨rfl, rfl, rfl, by decide +kernel, rfl, by decide +kernel, by decide +kernel⟩
theorem cal__law_alike {P : Program} {w : World} {K : PySem.W.Frag} {mg : Str → Option Value} {base : Heap} (T : Mo K mg) : CalG P w K mg base 1 "_law_alike" 2 f__law_alike := by
  obtain ⟨f, fd, F, g, b⟩ := T.d__law_alike
  have sc := sc__law_alike
  refine ⟨f, fd, _, fn_ok (k := 0) (b := b__law_alike) F sc rfl fun cdv A outer s H E Pd hg hr => ?_, g, F.kp, b⟩
  exact (ss_one (ss_ret (se_and (se_cmp (or_eq hr) (se_callB (cr_repr hg hr) (by rfl) T.z_repr (by decide +kernel) (sa_cons (se_var (pv 0)) sa_nil)) (se_callB (cr_repr hg hr) (by rfl) T.z_repr (by decide +kernel) (sa_cons (se_var (pv 1)) sa_nil))) (se_one (se_cmp (or_eq hr) (se_var (pv 0)) (se_var (pv 1)))))))
def l__law_gcd_1 : MS :=
  (mPar 0 1 (mCons (mVar 1) (mCons (m2 modF (mVar 0) (mVar 1)) mNil)))
def b__law_gcd : MS :=
  (mSeq (mWhileL (mB (m2 (eqF true) (mVar 1) (mC (.int 0)))) l__law_gcd_1 500)
  (mRet (mBf absF (mCons (mVar 0) mNil))))
def f__law_gcd : FM := mFn 2 (b__law_gcd)
theorem sc__law_gcd : FnScope ["a", "b"] ["a", "b"] (defScope (topS 43)) := ⟨rfl, rfl, rfl, by decide +kernel, rfl, by decide +kernel, by decide +kernel⟩
theorem cal__law_gcd {P : Program} {w : World} {K : PySem.W.Frag} {mg : Str → Option Value} {base : Heap} (T : Mo K mg) : CalG P w K mg base 1 "_law_gcd" 2 f__law_gcd := by
  obtain ⟨f, fd, F, g, b⟩ := T.d__law_gcd
  have sc := sc__law_gcd
  refine ⟨f, fd, _, fn_ok (k := 0) (b := b__law_gcd) F sc rfl fun cdv A outer s H E Pd hg hr => ?_, g, F.kp, b⟩
  exact (ss_cons (ss_while 500 (passes_of rfl) (st_cmp (or_ne hr) (se_var (pv 1)) se_int) (ss_one (ss_par (i := 0) (j := 1) rfl sc.nd (by rfl) (by rfl) (by decide) (by rfl) (by rfl) (sa_cons (se_var (pv 1)) (sa_cons (se_op or_mod (se_var (pv 0)) (se_var (pv 1))) sa_nil)) (by rfl))))
  (ss_one (ss_ret (se_callB cr_abs (by rfl) T.z_abs (by decide +kernel) (sa_cons (se_var (pv 0)) sa_nil)))))
def b__law_is_fraction : MS :=
  (mSeq (mIfS (mOr (mNot (mTru (mBf isinstF (mCons (mVar 0) (mCons (mC (.ty "tuple")) mNil))))) (mOr (mB (m2 (eqF true) (mBf lenF (mCons (mVar 0) mNil)) (mC (.int 2)))) (mOr (mNot (mTru (mCall f__law_int (mCons (m2 ixF (mVar 0) (mC (.int 0))) mNil)))) (mNot (mTru (mCall f__law_int (mCons (m2 ixF (mVar 0) (mC (.int 1))) mNil))))))) (mRet (mC (.bl false))) mSkip)
  (mRet (mAndV (m2 gtF (m2 ixF (mVar 0) (mC (.int 1))) (mC (.int 0))) (m2 (eqF false) (mCall f__law_gcd (mCons (m2 ixF (mVar 0) (mC (.int 0))) (mCons (m2 ixF (mVar 0) (mC (.int 1))) mNil))) (mC (.int 1))))))
def f__law_is_fraction : FM := mFn 1 (b__law_is_fraction)
theorem sc__law_is_fraction : FnScope ["thing"] ["thing"] (defScope (topS 44)) := ⟨rfl, rfl, rfl, by decide +kernel, rfl, by decide +kernel, by decide +kernel⟩
theorem cal__law_is_fraction {P : Program} {w : World} {K : PySem.W.Frag} {mg : Str → Option Value} {base : Heap} (T : Mo K mg) : CalG P w K mg base 2 "_law_is_fraction" 1 f__law_is_fraction := by
  obtain ⟨f, fd, F, g, b⟩ := T.d__law_is_fraction
  have sc := sc__law_is_fraction
  have C__law_int : CalG P w K mg base 1 "_law_int" 1 f__law_int := cal__law_int T
  have C__law_gcd : CalG P w K mg base 1 "_law_gcd" 2 f__law_gcd := cal__law_gcd T
  refine ⟨f, fd, _, fn_ok (k := 1) (b := b__law_is_fraction) F sc rfl fun cdv A outer s H E Pd hg hr => ?_, g, F.kp, b⟩
  exact (ss_cons (ss_if (st_w (sw_or (st_not (st_tru (se_callB cr_isinst (by rfl) T.z_isinstance (by decide +kernel) (sa_cons (se_var (pv 0)) (sa_cons (se_bltn (by rfl) T.z_tuple (by decide +kernel)) sa_nil))))) (sw_or (st_cmp (or_ne hr) (se_callB cr_len (by rfl) T.z_len (by decide +kernel) (sa_cons (se_var (pv 0)) sa_nil)) se_int) (sw_or (st_not (st_tru (se_callG (C__law_int.mono) hg hr (takes_of rfl rfl rfl rfl) (by rfl) (sa_cons (se_ix (se_var (pv 0)) se_int) sa_nil) (mCons_len mNil_len)))) (sw_or1 (st_not (st_tru (se_callG (C__law_int.mono) hg hr (takes_of rfl rfl rfl rfl) (by rfl) (sa_cons (se_ix (se_var (pv 0)) se_int) sa_nil) (mCons_len mNil_len))))))))) (ss_one (ss_ret se_bl)) ss_nil)
  (ss_one (ss_ret (se_and (se_cmp or_gt (se_ix (se_var (pv 0)) se_int) se_int) (se_one (se_cmp (or_eq hr) (se_callG (C__law_gcd.mono) hg hr (takes_of rfl rfl rfl rfl) (by rfl) (sa_cons (se_ix (se_var (pv 0)) se_int) (sa_cons (se_ix (se_var (pv 0)) se_int) sa_nil)) (mCons_len (mCons_len mNil_len))) se_int))))))
def l__law_is_tree_1 : MS :=
  (mSeq (mAsg (.tp [(.nm 2), (.nm 3)]) (mMtL popF (mVar 1) mNil))
  (mSeq (mIfS (mOr (mNot (mTru (mBf isinstF (mCons (mVar 2) (mCons (mC (.ty "tuple")) mNil))))) (mOr (mB (m2 (eqF false) (mVar 2) (mTup mNil))) (mOr (mNot (mTru (mBf isinstF (mCons (m2 ixF (mVar 2) (mC (.int 0))) (mCons (mC (.ty "str")) mNil))))) (mB (m2 gtF (mVar 3) (mC (.int 60))))))) (mRet (mC (.bl false))) mSkip)
  (mIfS (mOr (mAnd (mB (m2 (inF false) (m2 ixF (mVar 2) (mC (.int 0))) (mTup (mCons (mC (.str "row")) (mCons (mC (.str "one")) (mCons (mC (.str "beside")) mNil)))))) (mB (m2 gtF (mBf lenF (mCons (mVar 2) mNil)) (mC (.int 2))))) (mAnd (mB (m2 (eqF false) (m2 ixF (mVar 2) (mC (.int 0))) (mC (.str "again")))) (mB (m2 (eqF false) (mBf lenF (mCons (mVar 2) mNil)) (mC (.int 3)))))) (mDrop (mMtL extendF (mVar 1) (mCons (mLcE [4] (.nm 4) (mItT (mSl (mVar 2) (mSo (mC (.int 1))) mNo)) mYes (mTup (mCons (mVar 4) (mCons (m2 addF (mVar 3) (mC (.int 1))) mNil)))) mNil))) (mIfS (mAnd (mB (m2 (eqF true) (mVar 2) (mTup (mCons (mC (.str "quiet")) mNil)))) (mOr (mB (m2 (eqF true) (m2 ixF (mVar 2) (mC (.int 0))) (mC (.str "work")))) (mOr (mB (m2 (eqF true) (mBf lenF (mCons (mVar 2) mNil)) (mC (.int 2)))) (mNot (mTru (mCall f__law_is_name (mCons (m2 ixF (mVar 2) (mC (.int 1))) mNil))))))) (mRet (mC (.bl false))) mSkip))))
def b__law_is_tree : MS :=
  (mSeq (mNewL 1 (mCons (mTup (mCons (mVar 0) (mCons (mC (.int 1)) mNil))) mNil))
  (mSeq (mWhileL (mB (m2 (eqF true) (mVar 1) (mLst mNil))) l__law_is_tree_1 500)
  (mRet (mC (.bl true)))))
def f__law_is_tree : FM := mFn 5 (b__law_is_tree)
theorem sc__law_is_tree : FnScope ["thing", "line", "one", "deep", "part"] ["thing"] (defScope (topS 40)) := ⟨rfl, rfl, rfl, by decide +kernel, rfl, by decide +kernel, by decide +kernel⟩
theorem cal__law_is_tree {P : Program} {w : World} {K : PySem.W.Frag} {mg : Str → Option Value} {base : Heap} (T : Mo K mg) : CalG P w K mg base 2 "_law_is_tree" 1 f__law_is_tree := by
  obtain ⟨f, fd, F, g, b⟩ := T.d__law_is_tree
  have sc := sc__law_is_tree
  have C__law_is_name : CalG P w K mg base 1 "_law_is_name" 1 f__law_is_name := cal__law_is_name T
  refine ⟨f, fd, _, fn_ok (k := 1) (b := b__law_is_tree) F sc rfl fun cdv A outer s H E Pd hg hr => ?_, g, F.kp, b⟩
  exact (ss_cons (ss_newL (i := 1) sc.nd (by rfl) (by first | exact .inl rfl | exact .inr rfl) (sa_cons (se_tup (sa_cons (se_var (pv 0)) (sa_cons se_int sa_nil))) sa_nil))
  (ss_cons (ss_while 500 (passes_of rfl) (st_cmp (or_ne hr) (se_var (pv 1)) (se_lst sa_nil)) (ss_cons (ss_asg (se_bmL0 PySem.F.slot_list_pop PySem.F.type_list_pop mm_pop (se_var (pv 1))) (sg_tp rfl (sgs_cons (sg_nm (i := 2) sc.nd (by rfl) (by first | exact .inl rfl | exact .inr rfl)) (sgs_cons (sg_nm (i := 3) sc.nd (by rfl) (by first | exact .inl rfl | exact .inr rfl)) sgs_nil))))
  (ss_cons (ss_if (st_w (sw_or (st_not (st_tru (se_callB cr_isinst (by rfl) T.z_isinstance (by decide +kernel) (sa_cons (se_var (pv 2)) (sa_cons (se_bltn (by rfl) T.z_tuple (by decide +kernel)) sa_nil))))) (sw_or (st_cmp (or_eq hr) (se_var (pv 2)) (se_tup sa_nil)) (sw_or (st_not (st_tru (se_callB cr_isinst (by rfl) T.z_isinstance (by decide +kernel) (sa_cons (se_ix (se_var (pv 2)) se_int) (sa_cons (se_bltn (by rfl) T.z_str (by decide +kernel)) sa_nil))))) (sw_or1 (st_cmp or_gt (se_var (pv 3)) se_int)))))) (ss_one (ss_ret se_bl)) ss_nil)
  (ss_one (ss_if (st_w (sw_or (st_w (sw_and (st_cmp (or_in hr) (se_ix (se_var (pv 2)) se_int) (se_tup (sa_cons se_str (sa_cons se_str (sa_cons se_str sa_nil))))) (sw_and1 (st_cmp or_gt (se_callB cr_len (by rfl) T.z_len (by decide +kernel) (sa_cons (se_var (pv 2)) sa_nil)) se_int)))) (sw_or1 (st_w (sw_and (st_cmp (or_eq hr) (se_ix (se_var (pv 2)) se_int) se_str) (sw_and1 (st_cmp (or_eq hr) (se_callB cr_len (by rfl) T.z_len (by decide +kernel) (sa_cons (se_var (pv 2)) sa_nil)) se_int))))))) (ss_one (ss_expr (se_bmL PySem.F.slot_list_extend PySem.F.type_list_extend mm_extend (se_var (pv 1)) (sa_cons (se_lc (own := [("part", 4)]) rfl sc.nd (blkOk_by (show blkC ["thing", "line", "one", "deep", "part"] (defScope (topS 40)) _ [("part", 4)] = true from by decide +kernel)) (by decide +kernel) (si_tup (se_slice (se_var (pv 2)) (so_some se_int) so_none)) (fun _ _ _ _ _ => (sg_nm (i := 4) sc.nd (by rfl) (by first | exact .inl rfl | exact .inr rfl))) (fun _ _ _ _ _ => sts_nil) (fun _ _ _ _ _ => (se_tup (sa_cons (se_var (pv 4)) (sa_cons (se_op or_add (se_var (pv 3)) se_int) sa_nil))))) sa_nil)))) (ss_one (ss_if (st_w (sw_and (st_cmp (or_ne hr) (se_var (pv 2)) (se_tup (sa_cons se_str sa_nil))) (sw_and1 (st_w (sw_or (st_cmp (or_ne hr) (se_ix (se_var (pv 2)) se_int) se_str) (sw_or (st_cmp (or_ne hr) (se_callB cr_len (by rfl) T.z_len (by decide +kernel) (sa_cons (se_var (pv 2)) sa_nil)) se_int) (sw_or1 (st_not (st_tru (se_callG (C__law_is_name.mono) hg hr (takes_of rfl rfl rfl rfl) (by rfl) (sa_cons (se_ix (se_var (pv 2)) se_int) sa_nil) (mCons_len mNil_len))))))))))) (ss_one (ss_ret se_bl)) ss_nil)))))))
  (ss_one (ss_ret se_bl))))
def b_are_rising : MS :=
  (mRet (mBf (allF false) (mCons (mLcE [1, 2] (.tp [(.nm 1), (.nm 2)]) (mZip (mCons (mVar 0) (mCons (mSl (mVar 0) (mSo (mC (.int 1))) mNo) mNil))) mYes (m2 ltF (mVar 1) (mVar 2))) mNil)))
def f_are_rising : FM := mFn 3 (b_are_rising)
theorem sc_are_rising : FnScope ["things", "one", "other"] ["things"] (defScope (topS 20)) := ⟨rfl, rfl, rfl, by decide +kernel, rfl, by decide +kernel, by decide +kernel⟩
theorem cal_are_rising {P : Program} {w : World} {K : PySem.W.Frag} {mg : Str → Option Value} {base : Heap} (T : Mo K mg) : CalG P w K mg base 1 "are_rising" 1 f_are_rising := by
  obtain ⟨f, fd, F, g, b⟩ := T.d_are_rising
  have sc := sc_are_rising
  refine ⟨f, fd, _, fn_ok (k := 0) (b := b_are_rising) F sc rfl fun cdv A outer s H E Pd hg hr => ?_, g, F.kp, b⟩
  exact (ss_one (ss_ret (se_callB (cr_all' rfl) (by rfl) T.z_all (by decide +kernel) (sa_cons (se_lc (own := [("one", 1), ("other", 2)]) rfl sc.nd (blkOk_by (show blkC ["things", "one", "other"] (defScope (topS 20)) _ [("one", 1), ("other", 2)] = true from by decide +kernel)) (by decide +kernel) (si_zip (by rfl) T.z_zip (sa_cons (se_var (pv 0)) (sa_cons (se_slice (se_var (pv 0)) (so_some se_int) so_none) sa_nil))) (fun _ _ _ _ _ => (sg_tp rfl (sgs_cons (sg_nm (i := 1) sc.nd (by rfl) (by first | exact .inl rfl | exact .inr rfl)) (sgs_cons (sg_nm (i := 2) sc.nd (by rfl) (by first | exact .inl rfl | exact .inr rfl)) sgs_nil)))) (fun _ _ _ _ _ => sts_nil) (fun _ _ _ _ _ => (se_cmp or_lt (se_var (pv 1)) (se_var (pv 2))))) sa_nil))))
def b_is_names : MS :=
  (mRet (mAndV (mCall (f_is_tuple_of [("is_name", f_is_name)]) (mCons (mVar 0) (mCons (mC (.glo "is_name")) mNil))) (mCall f_are_rising (mCons (mVar 0) mNil))))
def f_is_names : FM := mFn 1 (b_is_names)
theorem sc_is_names : FnScope ["thing"] ["thing"] (defScope (topS 21)) := ⟨rfl, rfl, rfl, by decide +kernel, rfl, by decide +kernel, by decide +kernel⟩
theorem cal_is_names {P : Program} {w : World} {K : PySem.W.Frag} {mg : Str → Option Value} {base : Heap} (T : Mo K mg) : CalG P w K mg base 3 "is_names" 1 f_is_names := by
  obtain ⟨f, fd, F, g, b⟩ := T.d_is_names
  have sc := sc_is_names
  have C_is_name : CalG P w K mg base 1 "is_name" 1 f_is_name := cal_is_name T
  have C_are_rising : CalG P w K mg base 1 "are_rising" 1 f_are_rising := cal_are_rising T
  refine ⟨f, fd, _, fn_ok (k := 2) (b := b_is_names) F sc rfl fun cdv A outer s H E Pd hg hr => ?_, g, F.kp, b⟩
  exact (ss_one (ss_ret (se_and (se_callG ((cal_is_tuple_of T _ _ (tb_one C_is_name)).mono) hg hr (takes_of rfl rfl rfl rfl) (by rfl) (sa_cons (se_var (pv 0)) (sa_cons (se_defG T.d_is_name (by rfl)) sa_nil)) (mCons_len (mCons_len mNil_len))) (se_one (se_callG (C_are_rising.mono) hg hr (takes_of rfl rfl rfl rfl) (by rfl) (sa_cons (se_var (pv 0)) sa_nil) (mCons_len mNil_len))))))
def b_is_counted : MS :=
  (mSeq (mIfS (mOr (mNot (mTru (mBf isinstF (mCons (mVar 0) (mCons (mC (.ty "tuple")) mNil))))) (mOr (mB (m2 (eqF true) (mBf lenF (mCons (mVar 0) mNil)) (mC (.int 2)))) (mNot (mTru (mCall (f_is_tuple_of [("is_name", f_is_name)]) (mCons (m2 ixF (mVar 0) (mC (.int 0))) (mCons (mC (.glo "is_name")) mNil))))))) (mRet (mC (.bl false))) mSkip)
  (mRet (mAndV (mCall f_is_count (mCons (m2 ixF (mVar 0) (mC (.int 1))) mNil)) (m2 gtF (m2 ixF (mVar 0) (mC (.int 1))) (mC (.int 0))))))
def f_is_counted : FM := mFn 1 (b_is_counted)
theorem sc_is_counted : FnScope ["thing"] ["thing"] (defScope (topS 27)) := ⟨rfl, rfl, rfl, by decide +kernel, rfl, by decide +kernel, by decide +kernel⟩
theorem cal_is_counted {P : Program} {w : World} {K : PySem.W.Frag} {mg : Str → Option Value} {base : Heap} (T : Mo K mg) : CalG P w K mg base 3 "is_counted" 1 f_is_counted := by
  obtain ⟨f, fd, F, g, b⟩ := T.d_is_counted
  have sc := sc_is_counted
  have C_is_count : CalG P w K mg base 2 "is_count" 1 f_is_count := cal_is_count T
  have C_is_name : CalG P w K mg base 1 "is_name" 1 f_is_name := cal_is_name T
  refine ⟨f, fd, _, fn_ok (k := 2) (b := b_is_counted) F sc rfl fun cdv A outer s H E Pd hg hr => ?_, g, F.kp, b⟩
  exact (ss_cons (ss_if (st_w (sw_or (st_not (st_tru (se_callB cr_isinst (by rfl) T.z_isinstance (by decide +kernel) (sa_cons (se_var (pv 0)) (sa_cons (se_bltn (by rfl) T.z_tuple (by decide +kernel)) sa_nil))))) (sw_or (st_cmp (or_ne hr) (se_callB cr_len (by rfl) T.z_len (by decide +kernel) (sa_cons (se_var (pv 0)) sa_nil)) se_int) (sw_or1 (st_not (st_tru (se_callG ((cal_is_tuple_of T _ _ (tb_one C_is_name)).mono) hg hr (takes_of rfl rfl rfl rfl) (by rfl) (sa_cons (se_ix (se_var (pv 0)) se_int) (sa_cons (se_defG T.d_is_name (by rfl)) sa_nil)) (mCons_len (mCons_len mNil_len))))))))) (ss_one (ss_ret se_bl)) ss_nil)
  (ss_one (ss_ret (se_and (se_callG (C_is_count.mono) hg hr (takes_of rfl rfl rfl rfl) (by rfl) (sa_cons (se_ix (se_var (pv 0)) se_int) sa_nil) (mCons_len mNil_len)) (se_one (se_cmp or_gt (se_ix (se_var (pv 0)) se_int) se_int))))))
def b_is_log_form : MS :=
  (mRet (mCall (f_is_tuple_of [("is_counted", f_is_counted)]) (mCons (mVar 0) (mCons (mC (.glo "is_counted")) mNil))))
def f_is_log_form : FM := mFn 1 (b_is_log_form)
theorem sc_is_log_form : FnScope ["thing"] ["thing"] (defScope (topS 28)) := ⟨rfl, rfl, rfl, by decide +kernel, rfl, by decide +kernel, by decide +kernel⟩
theorem cal_is_log_form {P : Program} {w : World} {K : PySem.W.Frag} {mg : Str → Option Value} {base : Heap} (T : Mo K mg) : CalG P w K mg base 5 "is_log_form" 1 f_is_log_form := by
  obtain ⟨f, fd, F, g, b⟩ := T.d_is_log_form
  have sc := sc_is_log_form
  have C_is_counted : CalG P w K mg base 3 "is_counted" 1 f_is_counted := cal_is_counted T
  refine ⟨f, fd, _, fn_ok (k := 4) (b := b_is_log_form) F sc rfl fun cdv A outer s H E Pd hg hr => ?_, g, F.kp, b⟩
  exact (ss_one (ss_ret (se_callG ((cal_is_tuple_of T _ _ (tb_one C_is_counted)).mono) hg hr (takes_of rfl rfl rfl rfl) (by rfl) (sa_cons (se_var (pv 0)) (sa_cons (se_defG T.d_is_counted (by rfl)) sa_nil)) (mCons_len (mCons_len mNil_len)))))
def b_is_led : MS :=
  (mRet (mAndV (mBf isinstF (mCons (mVar 0) (mCons (mC (.ty "tuple")) mNil))) (mAndV (m2 (eqF false) (mBf lenF (mCons (mVar 0) mNil)) (mC (.int 2))) (mAndV (mCall f_is_name (mCons (m2 ixF (mVar 0) (mC (.int 0))) mNil)) (mCall f_is_count (mCons (m2 ixF (mVar 0) (mC (.int 1))) mNil))))))
def f_is_led : FM := mFn 1 (b_is_led)
theorem sc_is_led : FnScope ["thing"] ["thing"] (defScope (topS 29)) := ⟨rfl, rfl, rfl, by decide +kernel, rfl, by decide +kernel, by decide +kernel⟩
theorem cal_is_led {P : Program} {w : World} {K : PySem.W.Frag} {mg : Str → Option Value} {base : Heap} (T : Mo K mg) : CalG P w K mg base 3 "is_led" 1 f_is_led := by
  obtain ⟨f, fd, F, g, b⟩ := T.d_is_led
  have sc := sc_is_led
  have C_is_name : CalG P w K mg base 1 "is_name" 1 f_is_name := cal_is_name T
  have C_is_count : CalG P w K mg base 2 "is_count" 1 f_is_count := cal_is_count T
  refine ⟨f, fd, _, fn_ok (k := 2) (b := b_is_led) F sc rfl fun cdv A outer s H E Pd hg hr => ?_, g, F.kp, b⟩
  exact (ss_one (ss_ret (se_and (se_callB cr_isinst (by rfl) T.z_isinstance (by decide +kernel) (sa_cons (se_var (pv 0)) (sa_cons (se_bltn (by rfl) T.z_tuple (by decide +kernel)) sa_nil))) (se_and (se_cmp (or_eq hr) (se_callB cr_len (by rfl) T.z_len (by decide +kernel) (sa_cons (se_var (pv 0)) sa_nil)) se_int) (se_and (se_callG (C_is_name.mono) hg hr (takes_of rfl rfl rfl rfl) (by rfl) (sa_cons (se_ix (se_var (pv 0)) se_int) sa_nil) (mCons_len mNil_len)) (se_one (se_callG (C_is_count.mono) hg hr (takes_of rfl rfl rfl rfl) (by rfl) (sa_cons (se_ix (se_var (pv 0)) se_int) sa_nil) (mCons_len mNil_len))))))))
def b_is_state_form : MS :=
  (mSeq (mIfS (mOr (mNot (mTru (mBf isinstF (mCons (mVar 0) (mCons (mC (.ty "tuple")) mNil))))) (mOr (mB (m2 (eqF true) (mBf lenF (mCons (mVar 0) mNil)) (mC (.int 2)))) (mNot (mTru (mCall (f_is_tuple_of [("is_led", f_is_led)]) (mCons (m2 ixF (mVar 0) (mC (.int 0))) (mCons (mC (.glo "is_led")) mNil))))))) (mRet (mC (.bl false))) mSkip)
  (mRet (mAndV (mCall f_is_count (mCons (m2 ixF (mVar 0) (mC (.int 1))) mNil)) (m2 ltF (m2 ixF (mVar 0) (mC (.int 1))) (mC (.int 2))))))
def f_is_state_form : FM := mFn 1 (b_is_state_form)
theorem sc_is_state_form : FnScope ["thing"] ["thing"] (defScope (topS 30)) := ⟨rfl, rfl, rfl, by decide +kernel, rfl, by decide +kernel, by decide +kernel⟩
theorem cal_is_state_form {P : Program} {w : World} {K : PySem.W.Frag} {mg : Str → Option Value} {base : Heap} (T : Mo K mg) : CalG P w K mg base 5 "is_state_form" 1 f_is_state_form := by
  obtain ⟨f, fd, F, g, b⟩ := T.d_is_state_form
  have sc := sc_is_state_form
  have C_is_count : CalG P w K mg base 2 "is_count" 1 f_is_count := cal_is_count T
  have C_is_led : CalG P w K mg base 3 "is_led" 1 f_is_led := cal_is_led T
  refine ⟨f, fd, _, fn_ok (k := 4) (b := b_is_state_form) F sc rfl fun cdv A outer s H E Pd hg hr => ?_, g, F.kp, b⟩
  exact (ss_cons (ss_if (st_w (sw_or (st_not (st_tru (se_callB cr_isinst (by rfl) T.z_isinstance (by decide +kernel) (sa_cons (se_var (pv 0)) (sa_cons (se_bltn (by rfl) T.z_tuple (by decide +kernel)) sa_nil))))) (sw_or (st_cmp (or_ne hr) (se_callB cr_len (by rfl) T.z_len (by decide +kernel) (sa_cons (se_var (pv 0)) sa_nil)) se_int) (sw_or1 (st_not (st_tru (se_callG ((cal_is_tuple_of T _ _ (tb_one C_is_led)).mono) hg hr (takes_of rfl rfl rfl rfl) (by rfl) (sa_cons (se_ix (se_var (pv 0)) se_int) (sa_cons (se_defG T.d_is_led (by rfl)) sa_nil)) (mCons_len (mCons_len mNil_len))))))))) (ss_one (ss_ret se_bl)) ss_nil)
  (ss_one (ss_ret (se_and (se_callG (C_is_count.mono) hg hr (takes_of rfl rfl rfl rfl) (by rfl) (sa_cons (se_ix (se_var (pv 0)) se_int) sa_nil) (mCons_len mNil_len)) (se_one (se_cmp or_lt (se_ix (se_var (pv 0)) se_int) se_int))))))
def b_is_machine_form : MS :=
  (mRet (mAndV (mCall (f_is_tuple_of [("is_state_form", f_is_state_form)]) (mCons (mVar 0) (mCons (mC (.glo "is_state_form")) mNil))) (m2 (eqF true) (mVar 0) (mTup mNil))))
def f_is_machine_form : FM := mFn 1 (b_is_machine_form)
theorem sc_is_machine_form : FnScope ["thing"] ["thing"] (defScope (topS 31)) := ⟨rfl, rfl, rfl, by decide +kernel, rfl, by decide +kernel, by decide +kernel⟩
theorem cal_is_machine_form {P : Program} {w : World} {K : PySem.W.Frag} {mg : Str → Option Value} {base : Heap} (T : Mo K mg) : CalG P w K mg base 7 "is_machine_form" 1 f_is_machine_form := by
  obtain ⟨f, fd, F, g, b⟩ := T.d_is_machine_form
  have sc := sc_is_machine_form
  have C_is_state_form : CalG P w K mg base 5 "is_state_form" 1 f_is_state_form := cal_is_state_form T
  refine ⟨f, fd, _, fn_ok (k := 6) (b := b_is_machine_form) F sc rfl fun cdv A outer s H E Pd hg hr => ?_, g, F.kp, b⟩
  exact (ss_one (ss_ret (se_and (se_callG ((cal_is_tuple_of T _ _ (tb_one C_is_state_form)).mono) hg hr (takes_of rfl rfl rfl rfl) (by rfl) (sa_cons (se_var (pv 0)) (sa_cons (se_defG T.d_is_state_form (by rfl)) sa_nil)) (mCons_len (mCons_len mNil_len))) (se_one (se_cmp (or_ne hr) (se_var (pv 0)) (se_tup sa_nil))))))
def l__law_is_log_1 : MS :=
  (mSeq (mIfS (mOr (mNot (mTru (mBf isinstF (mCons (mVar 1) (mCons (mC (.ty "tuple")) mNil))))) (mOr (mB (m2 (eqF true) (mBf lenF (mCons (mVar 1) mNil)) (mC (.int 2)))) (mNot (mTru (mCall f__law_is_row (mCons (m2 ixF (mVar 1) (mC (.int 0))) (mCons (m2 powF (mC (.int 10)) (mC (.int 6))) mNil))))))) (mRet (mC (.bl false))) mSkip)
  (mIfS (mOr (mNot (mTru (mCall f__law_int (mCons (m2 ixF (mVar 1) (mC (.int 1))) mNil)))) (mB (m2 ltF (m2 ixF (mVar 1) (mC (.int 1))) (mC (.int 1))))) (mRet (mC (.bl false))) mSkip))
def b__law_is_log : MS :=
  (mSeq (mIfS (mNot (mTru (mBf isinstF (mCons (mVar 0) (mCons (mC (.ty "tuple")) mNil))))) (mRet (mC (.bl false))) mSkip)
  (mSeq (mFor (.nm 1) (mItT (mVar 0)) l__law_is_log_1)
  (mRet (mC (.bl true)))))
def f__law_is_log : FM := mFn 2 (b__law_is_log)
theorem sc__law_is_log : FnScope ["thing", "one"] ["thing"] (defScope (topS 41)) := ⟨rfl, rfl, rfl, by decide +kernel, rfl, by decide +kernel, by decide +kernel⟩
theorem cal__law_is_log {P : Program} {w : World} {K : PySem.W.Frag} {mg : Str → Option Value} {base : Heap} (T : Mo K mg) : CalG P w K mg base 3 "_law_is_log" 1 f__law_is_log := by
  obtain ⟨f, fd, F, g, b⟩ := T.d__law_is_log
  have sc := sc__law_is_log
  have C__law_is_row : CalG P w K mg base 2 "_law_is_row" 2 f__law_is_row := cal__law_is_row T
  have C__law_int : CalG P w K mg base 1 "_law_int" 1 f__law_int := cal__law_int T
  refine ⟨f, fd, _, fn_ok (k := 2) (b := b__law_is_log) F sc rfl fun cdv A outer s H E Pd hg hr => ?_, g, F.kp, b⟩
  exact (ss_cons (ss_if (st_not (st_tru (se_callB cr_isinst (by rfl) T.z_isinstance (by decide +kernel) (sa_cons (se_var (pv 0)) (sa_cons (se_bltn (by rfl) T.z_tuple (by decide +kernel)) sa_nil))))) (ss_one (ss_ret se_bl)) ss_nil)
  (ss_cons (ss_for (passes_of rfl) rfl (si_tup (se_var (pv 0))) (sg_nm (i := 1) sc.nd (by rfl) (by first | exact .inl rfl | exact .inr rfl)) (ss_cons (ss_if (st_w (sw_or (st_not (st_tru (se_callB cr_isinst (by rfl) T.z_isinstance (by decide +kernel) (sa_cons (se_var (pv 1)) (sa_cons (se_bltn (by rfl) T.z_tuple (by decide +kernel)) sa_nil))))) (sw_or (st_cmp (or_ne hr) (se_callB cr_len (by rfl) T.z_len (by decide +kernel) (sa_cons (se_var (pv 1)) sa_nil)) se_int) (sw_or1 (st_not (st_tru (se_callG (C__law_is_row.mono) hg hr (takes_of rfl rfl rfl rfl) (by rfl) (sa_cons (se_ix (se_var (pv 1)) se_int) (sa_cons (se_op or_pow se_int se_int) sa_nil)) (mCons_len (mCons_len mNil_len))))))))) (ss_one (ss_ret se_bl)) ss_nil)
  (ss_one (ss_if (st_w (sw_or (st_not (st_tru (se_callG (C__law_int.mono) hg hr (takes_of rfl rfl rfl rfl) (by rfl) (sa_cons (se_ix (se_var (pv 1)) se_int) sa_nil) (mCons_len mNil_len)))) (sw_or1 (st_cmp or_lt (se_ix (se_var (pv 1)) se_int) se_int)))) (ss_one (ss_ret se_bl)) ss_nil))))
  (ss_one (ss_ret se_bl))))
def l__law_is_machine_1 : MS :=
  (mIfS (mOr (mNot (mTru (mBf isinstF (mCons (mVar 2) (mCons (mC (.ty "tuple")) mNil))))) (mOr (mB (m2 (eqF true) (mBf lenF (mCons (mVar 2) mNil)) (mC (.int 2)))) (mOr (mNot (mTru (mCall f__law_is_name (mCons (m2 ixF (mVar 2) (mC (.int 0))) mNil)))) (mOr (mNot (mTru (mCall f__law_int (mCons (m2 ixF (mVar 2) (mC (.int 1))) mNil)))) (mB (m2 ltF (m2 ixF (mVar 2) (mC (.int 1))) (mC (.int 0)))))))) (mRet (mC (.bl false))) mSkip)
def l__law_is_machine_2 : MS :=
  (mSeq (mIfS (mOr (mNot (mTru (mBf isinstF (mCons (mVar 1) (mCons (mC (.ty "tuple")) mNil))))) (mOr (mB (m2 (eqF true) (mBf lenF (mCons (mVar 1) mNil)) (mC (.int 2)))) (mOr (mNot (mTru (mBf isinstF (mCons (m2 ixF (mVar 1) (mC (.int 0))) (mCons (mC (.ty "tuple")) mNil))))) (mNot (mTru (mCall f__law_int (mCons (m2 ixF (mVar 1) (mC (.int 1))) mNil))))))) (mRet (mC (.bl false))) mSkip)
  (mSeq (mIfS (mB (m2 (inF true) (m2 ixF (mVar 1) (mC (.int 1))) (mTup (mCons (mC (.int 0)) (mCons (mC (.int 1)) mNil))))) (mRet (mC (.bl false))) mSkip)
  (mFor (.nm 2) (mItT (m2 ixF (mVar 1) (mC (.int 0)))) l__law_is_machine_1)))
def b__law_is_machine : MS :=
  (mSeq (mIfS (mOr (mNot (mTru (mBf isinstF (mCons (mVar 0) (mCons (mC (.ty "tuple")) mNil))))) (mB (m2 (eqF false) (mVar 0) (mTup mNil)))) (mRet (mC (.bl false))) mSkip)
  (mSeq (mFor (.nm 1) (mItT (mVar 0)) l__law_is_machine_2)
  (mRet (mC (.bl true)))))
def f__law_is_machine : FM := mFn 3 (b__law_is_machine)
theorem sc__law_is_machine : FnScope ["thing", "one", "row"] ["thing"] (defScope (topS 42)) := ⟨rfl, rfl, rfl, by decide +kernel, rfl, by decide +kernel, by decide +kernel⟩
theorem cal__law_is_machine {P : Program} {w : World} {K : PySem.W.Frag} {mg : Str → Option Value} {base : Heap} (T : Mo K mg) : CalG P w K mg base 2 "_law_is_machine" 1 f__law_is_machine := by
  obtain ⟨f, fd, F, g, b⟩ := T.d__law_is_machine
  have sc := sc__law_is_machine
  have C__law_int : CalG P w K mg base 1 "_law_int" 1 f__law_int := cal__law_int T
  have C__law_is_name : CalG P w K mg base 1 "_law_is_name" 1 f__law_is_name := cal__law_is_name T
  refine ⟨f, fd, _, fn_ok (k := 1) (b := b__law_is_machine) F sc rfl fun cdv A outer s H E Pd hg hr => ?_, g, F.kp, b⟩
  exact (ss_cons (ss_if (st_w (sw_or (st_not (st_tru (se_callB cr_isinst (by rfl) T.z_isinstance (by decide +kernel) (sa_cons (se_var (pv 0)) (sa_cons (se_bltn (by rfl) T.z_tuple (by decide +kernel)) sa_nil))))) (sw_or1 (st_cmp (or_eq hr) (se_var (pv 0)) (se_tup sa_nil))))) (ss_one (ss_ret se_bl)) ss_nil)
  (ss_cons (ss_for (passes_of rfl) rfl (si_tup (se_var (pv 0))) (sg_nm (i := 1) sc.nd (by rfl) (by first | exact .inl rfl | exact .inr rfl)) (ss_cons (ss_if (st_w (sw_or (st_not (st_tru (se_callB cr_isinst (by rfl) T.z_isinstance (by decide +kernel) (sa_cons (se_var (pv 1)) (sa_cons (se_bltn (by rfl) T.z_tuple (by decide +kernel)) sa_nil))))) (sw_or (st_cmp (or_ne hr) (se_callB cr_len (by rfl) T.z_len (by decide +kernel) (sa_cons (se_var (pv 1)) sa_nil)) se_int) (sw_or (st_not (st_tru (se_callB cr_isinst (by rfl) T.z_isinstance (by decide +kernel) (sa_cons (se_ix (se_var (pv 1)) se_int) (sa_cons (se_bltn (by rfl) T.z_tuple (by decide +kernel)) sa_nil))))) (sw_or1 (st_not (st_tru (se_callG (C__law_int.mono) hg hr (takes_of rfl rfl rfl rfl) (by rfl) (sa_cons (se_ix (se_var (pv 1)) se_int) sa_nil) (mCons_len mNil_len))))))))) (ss_one (ss_ret se_bl)) ss_nil)
  (ss_cons (ss_if (st_cmp (or_notIn hr) (se_ix (se_var (pv 1)) se_int) (se_tup (sa_cons se_int (sa_cons se_int sa_nil)))) (ss_one (ss_ret se_bl)) ss_nil)
  (ss_one (ss_for (passes_of rfl) rfl (si_tup (se_ix (se_var (pv 1)) se_int)) (sg_nm (i := 2) sc.nd (by rfl) (by first | exact .inl rfl | exact .inr rfl)) (ss_one (ss_if (st_w (sw_or (st_not (st_tru (se_callB cr_isinst (by rfl) T.z_isinstance (by decide +kernel) (sa_cons (se_var (pv 2)) (sa_cons (se_bltn (by rfl) T.z_tuple (by decide +kernel)) sa_nil))))) (sw_or (st_cmp (or_ne hr) (se_callB cr_len (by rfl) T.z_len (by decide +kernel) (sa_cons (se_var (pv 2)) sa_nil)) se_int) (sw_or (st_not (st_tru (se_callG (C__law_is_name.mono) hg hr (takes_of rfl rfl rfl rfl) (by rfl) (sa_cons (se_ix (se_var (pv 2)) se_int) sa_nil) (mCons_len mNil_len)))) (sw_or (st_not (st_tru (se_callG (C__law_int.mono) hg hr (takes_of rfl rfl rfl rfl) (by rfl) (sa_cons (se_ix (se_var (pv 2)) se_int) sa_nil) (mCons_len mNil_len)))) (sw_or1 (st_cmp or_lt (se_ix (se_var (pv 2)) se_int) se_int))))))) (ss_one (ss_ret se_bl)) ss_nil)))))))
  (ss_one (ss_ret se_bl))))
def l_law_1 : MS :=
  (mSeq (mSet 3 (mCall f__law_drawn (mCons (mVar 1) mNil)))
  (mSeq (mSet 4 (mLst (mCons (mCall f_is_integer (mCons (mVar 3) mNil)) (mCons (mCall f_is_count (mCons (mVar 3) mNil)) (mCons (mCall f_is_name (mCons (mVar 3) mNil)) (mCons (mCall f_is_case (mCons (mVar 3) mNil)) (mCons (mCall f_is_fraction (mCons (mVar 3) mNil)) (mCons (mCall f_is_tree_form (mCons (mVar 3) mNil)) mNil))))))))
  (mSeq (mSet 5 (mLst (mCons (mCall f__law_int (mCons (mVar 3) mNil)) (mCons (mAndV (mCall f__law_int (mCons (mVar 3) mNil)) (m2 geF (mVar 3) (mC (.int 0)))) (mCons (mCall f__law_is_name (mCons (mVar 3) mNil)) (mCons (mCall f__law_is_row (mCons (mVar 3) (mCons (mC (.int 400)) mNil))) mNil))))))
  (mSeq (mSet 5 (m2 addF (mVar 5) (mLst (mCons (mCall f__law_is_fraction (mCons (mVar 3) mNil)) (mCons (mCall f__law_is_tree (mCons (mVar 3) mNil)) mNil)))))
  (mSeq (mSet 4 (m2 addF (mVar 4) (mLst (mCons (mCall f_is_names (mCons (mVar 3) mNil)) (mCons (mCall f_is_log_form (mCons (mVar 3) mNil)) (mCons (mCall f_is_machine_form (mCons (mVar 3) mNil)) mNil))))))
  (mSeq (mSet 6 (mAndV (mCall f__law_is_row (mCons (mVar 3) (mCons (m2 powF (mC (.int 10)) (mC (.int 6))) mNil))) (m2 (eqF false) (mLcE [7] (.nm 7) (mRg1 (mCons (m2 subF (mBf lenF (mCons (mVar 3) mNil)) (mC (.int 1))) mNil)) (mB (m2 geF (m2 ixF (mVar 3) (mVar 7)) (m2 ixF (mVar 3) (m2 addF (mVar 7) (mC (.int 1)))))) (mVar 7)) (mLst mNil))))
  (mIfS (mNot (mTru (mCall f__law_alike (mCons (mVar 4) (mCons (m2 addF (mVar 5) (mLst (mCons (mVar 6) (mCons (mCall f__law_is_log (mCons (mVar 3) mNil)) (mCons (mCall f__law_is_machine (mCons (mVar 3) mNil)) mNil))))) mNil))))) (mRet (mC (.bl false))) mSkip)))))))
def b_law : MS :=
  (mSeq (mSetNew 1 f__law_bag (mCons (mVar 0) mNil))
  (mSeq (mIfS (mNot (mTru (mCall f__law_errors mNil))) (mRet (mC (.bl false))) mSkip)
  (mSeq (mFor (.nm 2) (mRg1 (mCons (mC (.int 8)) mNil)) l_law_1)
  (mRet (mC (.bl true))))))
def f_law : FM := mFn 8 (b_law)
theorem sc_law : FnScope ["script", "bag", "turn", "thing", "looked", "due", "rising", "k"] ["script"] (defScope (topS 47)) := ⟨rfl, rfl, rfl, by decide +kernel, rfl, by decide +kernel, by decide +kernel⟩
theorem cal_law {P : Program} {w : World} {K : PySem.W.Frag} {mg : Str → Option Value} {base : Heap} (T : Mo K mg) (G__law_errors : CalG P w K mg base 20 "_law_errors" 0 f__law_errors) : CalG P w K mg base 21 "law" 1 f_law := by
  obtain ⟨f, fd, F, g, b⟩ := T.d_law
  have sc := sc_law
  have C__law_bag : CalN P w K mg base 1 "_law_bag" 1 f__law_bag := cal__law_bag T
  have C__law_errors : CalG P w K mg base 20 "_law_errors" 0 f__law_errors := G__law_errors
  have C__law_drawn : CalG P w K mg base 3 "_law_drawn" 1 f__law_drawn := cal__law_drawn T
  have C_is_integer : CalG P w K mg base 1 "is_integer" 1 f_is_integer := cal_is_integer T
  have C_is_count : CalG P w K mg base 2 "is_count" 1 f_is_count := cal_is_count T
  have C_is_name : CalG P w K mg base 1 "is_name" 1 f_is_name := cal_is_name T
  have C_is_case : CalG P w K mg base 3 "is_case" 1 f_is_case := cal_is_case T
  have C_is_fraction : CalG P w K mg base 2 "is_fraction" 1 f_is_fraction := cal_is_fraction T
  have C_is_tree_form : CalG P w K mg base 3 "is_tree_form" 1 f_is_tree_form := cal_is_tree_form T
  have C__law_int : CalG P w K mg base 1 "_law_int" 1 f__law_int := cal__law_int T
  have C__law_is_name : CalG P w K mg base 1 "_law_is_name" 1 f__law_is_name := cal__law_is_name T
  have C__law_is_row : CalG P w K mg base 2 "_law_is_row" 2 f__law_is_row := cal__law_is_row T
  have C__law_alike : CalG P w K mg base 1 "_law_alike" 2 f__law_alike := cal__law_alike T
  have C__law_is_fraction : CalG P w K mg base 2 "_law_is_fraction" 1 f__law_is_fraction := cal__law_is_fraction T
  have C__law_is_tree : CalG P w K mg base 2 "_law_is_tree" 1 f__law_is_tree := cal__law_is_tree T
  have C_is_names : CalG P w K mg base 3 "is_names" 1 f_is_names := cal_is_names T
  have C_is_log_form : CalG P w K mg base 5 "is_log_form" 1 f_is_log_form := cal_is_log_form T
  have C_is_machine_form : CalG P w K mg base 7 "is_machine_form" 1 f_is_machine_form := cal_is_machine_form T
  have C__law_is_log : CalG P w K mg base 3 "_law_is_log" 1 f__law_is_log := cal__law_is_log T
  have C__law_is_machine : CalG P w K mg base 2 "_law_is_machine" 1 f__law_is_machine := cal__law_is_machine T
  refine ⟨f, fd, _, fn_ok (k := 20) (b := b_law) F sc rfl fun cdv A outer s H E Pd hg hr => ?_, g, F.kp, b⟩
  exact (ss_cons (ss_setNewG (i := 1) (C__law_bag.mono) hg hr (takes_of rfl rfl rfl rfl) (by rfl) sc.nd (by rfl) (by first | exact .inl rfl | exact .inr rfl) (sa_cons (se_var (pv 0)) sa_nil) (mCons_len mNil_len))
  (ss_cons (ss_if (st_not (st_tru (se_callG0 (C__law_errors.mono) hg hr (takes_of rfl rfl rfl rfl) (by rfl)))) (ss_one (ss_ret se_bl)) ss_nil)
  (ss_cons (ss_for (passes_of rfl) rfl (si_range1 (by rfl) T.z_range (sa_cons se_int sa_nil)) (sg_nm (i := 2) sc.nd (by rfl) (by first | exact .inl rfl | exact .inr rfl)) (ss_cons (ss_set (i := 3) sc.nd (by rfl) (by first | exact .inl rfl | exact .inr rfl) (se_callG (C__law_drawn.mono) hg hr (takes_of rfl rfl rfl rfl) (by rfl) (sa_cons (se_var (pv 1)) sa_nil) (mCons_len mNil_len)))
  (ss_cons (ss_set (i := 4) sc.nd (by rfl) (by first | exact .inl rfl | exact .inr rfl) (se_lst (sa_cons (se_callG (C_is_integer.mono) hg hr (takes_of rfl rfl rfl rfl) (by rfl) (sa_cons (se_var (pv 3)) sa_nil) (mCons_len mNil_len)) (sa_cons (se_callG (C_is_count.mono) hg hr (takes_of rfl rfl rfl rfl) (by rfl) (sa_cons (se_var (pv 3)) sa_nil) (mCons_len mNil_len)) (sa_cons (se_callG (C_is_name.mono) hg hr (takes_of rfl rfl rfl rfl) (by rfl) (sa_cons (se_var (pv 3)) sa_nil) (mCons_len mNil_len)) (sa_cons (se_callG (C_is_case.mono) hg hr (takes_of rfl rfl rfl rfl) (by rfl) (sa_cons (se_var (pv 3)) sa_nil) (mCons_len mNil_len)) (sa_cons (se_callG (C_is_fraction.mono) hg hr (takes_of rfl rfl rfl rfl) (by rfl) (sa_cons (se_var (pv 3)) sa_nil) (mCons_len mNil_len)) (sa_cons (se_callG (C_is_tree_form.mono) hg hr (takes_of rfl rfl rfl rfl) (by rfl) (sa_cons (se_var (pv 3)) sa_nil) (mCons_len mNil_len)) sa_nil))))))))
  (ss_cons (ss_set (i := 5) sc.nd (by rfl) (by first | exact .inl rfl | exact .inr rfl) (se_lst (sa_cons (se_callG (C__law_int.mono) hg hr (takes_of rfl rfl rfl rfl) (by rfl) (sa_cons (se_var (pv 3)) sa_nil) (mCons_len mNil_len)) (sa_cons (se_and (se_callG (C__law_int.mono) hg hr (takes_of rfl rfl rfl rfl) (by rfl) (sa_cons (se_var (pv 3)) sa_nil) (mCons_len mNil_len)) (se_one (se_cmp or_ge (se_var (pv 3)) se_int))) (sa_cons (se_callG (C__law_is_name.mono) hg hr (takes_of rfl rfl rfl rfl) (by rfl) (sa_cons (se_var (pv 3)) sa_nil) (mCons_len mNil_len)) (sa_cons (se_callG (C__law_is_row.mono) hg hr (takes_of rfl rfl rfl rfl) (by rfl) (sa_cons (se_var (pv 3)) (sa_cons se_int sa_nil)) (mCons_len (mCons_len mNil_len))) sa_nil))))))
  (ss_cons (ss_set (i := 5) sc.nd (by rfl) (by first | exact .inl rfl | exact .inr rfl) (se_op or_add (se_var (pv 5)) (se_lst (sa_cons (se_callG (C__law_is_fraction.mono) hg hr (takes_of rfl rfl rfl rfl) (by rfl) (sa_cons (se_var (pv 3)) sa_nil) (mCons_len mNil_len)) (sa_cons (se_callG (C__law_is_tree.mono) hg hr (takes_of rfl rfl rfl rfl) (by rfl) (sa_cons (se_var (pv 3)) sa_nil) (mCons_len mNil_len)) sa_nil)))))
  (ss_cons (ss_set (i := 4) sc.nd (by rfl) (by first | exact .inl rfl | exact .inr rfl) (se_op or_add (se_var (pv 4)) (se_lst (sa_cons (se_callG (C_is_names.mono) hg hr (takes_of rfl rfl rfl rfl) (by rfl) (sa_cons (se_var (pv 3)) sa_nil) (mCons_len mNil_len)) (sa_cons (se_callG (C_is_log_form.mono) hg hr (takes_of rfl rfl rfl rfl) (by rfl) (sa_cons (se_var (pv 3)) sa_nil) (mCons_len mNil_len)) (sa_cons (se_callG (C_is_machine_form.mono) hg hr (takes_of rfl rfl rfl rfl) (by rfl) (sa_cons (se_var (pv 3)) sa_nil) (mCons_len mNil_len)) sa_nil))))))
  (ss_cons (ss_set (i := 6) sc.nd (by rfl) (by first | exact .inl rfl | exact .inr rfl) (se_and (se_callG (C__law_is_row.mono) hg hr (takes_of rfl rfl rfl rfl) (by rfl) (sa_cons (se_var (pv 3)) (sa_cons (se_op or_pow se_int se_int) sa_nil)) (mCons_len (mCons_len mNil_len))) (se_one (se_cmp (or_eq hr) (se_lc (own := [("k", 7)]) rfl sc.nd (blkOk_by (show blkC ["script", "bag", "turn", "thing", "looked", "due", "rising", "k"] (defScope (topS 47)) _ [("k", 7)] = true from by decide +kernel)) (by decide +kernel) (si_range1 (by rfl) T.z_range (sa_cons (se_op or_sub (se_callB cr_len (by rfl) T.z_len (by decide +kernel) (sa_cons (se_var (pv 3)) sa_nil)) se_int) sa_nil)) (fun _ _ _ _ _ => (sg_nm (i := 7) sc.nd (by rfl) (by first | exact .inl rfl | exact .inr rfl))) (fun _ _ _ _ _ => (sts_one (st_cmp or_ge (se_ix (se_var (pv 3)) (se_var (pv 7))) (se_ix (se_var (pv 3)) (se_op or_add (se_var (pv 7)) se_int))))) (fun _ _ _ _ _ => (se_var (pv 7)))) (se_lst sa_nil)))))
  (ss_one (ss_if (st_not (st_tru (se_callG (C__law_alike.mono) hg hr (takes_of rfl rfl rfl rfl) (by rfl) (sa_cons (se_var (pv 4)) (sa_cons (se_op or_add (se_var (pv 5)) (se_lst (sa_cons (se_var (pv 6)) (sa_cons (se_callG (C__law_is_log.mono) hg hr (takes_of rfl rfl rfl rfl) (by rfl) (sa_cons (se_var (pv 3)) sa_nil) (mCons_len mNil_len)) (sa_cons (se_callG (C__law_is_machine.mono) hg hr (takes_of rfl rfl rfl rfl) (by rfl) (sa_cons (se_var (pv 3)) sa_nil) (mCons_len mNil_len)) sa_nil))))) sa_nil)) (mCons_len (mCons_len mNil_len))))) (ss_one (ss_ret se_bl)) ss_nil)))))))))
  (ss_one (ss_ret se_bl)))))
end Lk00

set_option Elab.async false
set_option linter.all false
set_option maxRecDepth 100000
set_option maxHeartbeats 4000000
namespace Lk00
open PySem PySem.Spec PyProof.Rows L2 L2.Py
def menu0 (dp : D) : List D := [.int (0), .int (1), .int (-1), .bl true, .non, .str "", .str "a", .str "row", .str "a1", .str "A", .str "abcdefgh", .str "abcdefghi", .str "1a", .tup [], .lst [], .tup [.str "a"], .tup [.str "a", .str "a"], .tup [.str "b", .str "a"]]
def menu1 (dp : D) : List D := [.tup [.str "a", .str "b"], .lst [.str "a"], .tup (List.replicate 400 (.str "a")), .tup (List.replicate 401 (.str "a")), .tup [.int (1), .int (2)], .tup [.int (2), .int (4)], .tup [.int (0), .int (1)], .tup [.int (0), .int (2)], .tup [.int (1), .int (0)], .tup [.bl true, .int (2)], dp]
def menu2 (dp : D) : List D := [.tup [.str "work", .str "a"], .tup [.str "work", .str "row"], .tup [.str "work"], .tup [.str "quiet"], .tup [.str "quiet", .int (1)], .tup [.str "row", .tup [.str "quiet"], .tup [.str "work", .str "a"]], .tup [.str "row", .tup [.str "quiet"]]]
def menu3 (dp : D) : List D := [.tup [.str "again", .tup [.str "quiet"], .tup [.str "quiet"]], .tup [.str "again", .tup [.str "quiet"]], .tup [.str "one", .str "a", .str "b"], .lst [.str "quiet"], .tup [.tup [.tup [.str "a"], .int (1)]], .tup [.tup [.tup [.str "a"], .int (0)]]]
def menu4 (dp : D) : List D := [.tup [.tup [.tup [.str "a"], .bl true]], .tup [.tup [.tup [], .int (3)], .tup [.tup [], .int (3)]], .tup [.tup [.lst [.str "a"], .int (1)]], .tup [.tup [.tup [], .int (1)]], .tup [.tup [.tup [.tup [.str "a", .int (0)]], .int (1)]], .tup [.tup [.tup [.tup [.str "a", .int (-1)]], .int (1)]], .tup [.tup [.tup [], .int (2)]]]
def menu (dp : D) : List D := menu0 dp ++ menu1 dp ++ menu2 dp ++ menu3 dp ++ menu4 dp
def deepN : Nat → D
  | 0 => .tup [.str "quiet"]
  | n + 1 => .tup [.str "again", deepN n, .tup [.str "quiet"]]
theorem deep_loop (bag : Cell) : ∀ (xs : List D) (n : Nat) (lap : Option SV), ∃ lap', mForL (.nm 2) l__law_drawn_1 xs [some (.r 0), some (.d (deepN n)), lap, none] [bag] = .nx [some (.r 0), some (.d (deepN (n + xs.length))), lap', none] [bag]
  | [], n, lap => ⟨lap, rfl⟩
  | x :: xs, n, lap => by
    obtain ⟨lap', e⟩ := deep_loop bag xs (n + 1) (some (.d x))
    refine ⟨lap', Eq.trans (?_ : _ = mForL (.nm 2) l__law_drawn_1 xs [some (.r 0), some (.d (deepN (n + 1))), some (.d x), none] [bag]) (e.trans ?_)⟩
    · rfl
    · rw [List.length_cons, show n + 1 + xs.length = n + (xs.length + 1) by omega]
theorem rangeD_len (i : Int) (n : Nat) : (rangeD i n).length = n := by simp [rangeD]
theorem rg1_ok {ρ : Env'} {hs hs1 : Hs} {a : ME} {j : Int} (h : a ρ hs = .ok (.d (.int j)) hs1) (h2 : -(2 ^ 62) ≤ j ∧ j < 2 ^ 62) : mRg1 (mCons a mNil) ρ hs = .ok (rangeD 0 j.toNat) hs1 := by
  simp only [mRg1, mCons, mNil, h, Out.bind]
  exact if_pos h2
theorem for_ok {t : Tg} {mi : MI} {b : MS} {ρ : Env'} {hs hs1 : Hs} {items : List D} (h : mi ρ hs = .ok items hs1) : mFor t mi b ρ hs = mForL t b items ρ hs1 := by
  simp only [mFor, h, Out.bindS]
theorem drawn_ok (a b c : Int) (ns : List Int) (hl : ns.length ≤ 1000) (ha : 0 ≤ a) : ∃ n d a' b' c', n < 63 ∧ d ∈ menu (deepN n) ∧ f__law_drawn [.r 0] [bagC a b c ns] = .ok d [bagC a' b' c' ns] ∧ 0 ≤ a' := by
  obtain ⟨v, a1, b1, c1, e, v0, v1, q⟩ := take_ok a b c 63 ns hl ha (by decide) (by decide)
  obtain ⟨lap', el⟩ := deep_loop (bagC a1 b1 c1 ns) (rangeD 0 v.toNat) 0 none
  rw [rangeD_len, Nat.zero_add] at el
  obtain ⟨d, a2, b2, c2, hd, e2, q2⟩ := some_ok a1 b1 c1 ns hl q (menu (deepN v.toNat)) (by simp [menu, menu0]) (by simp [menu, menu0, menu1, menu2, menu3, menu4])
  refine ⟨v.toNat, d, a2, b2, c2, by omega, hd, ?_, q2⟩
  have main : b__law_drawn [some (.r 0), none, none, none] [bagC a b c ns] = .rt (.d d) [bagC a2 b2 c2 ns] := by
    refine Eq.trans (seq_nx (ρ1 := [some (.r 0), some (.d (deepN 0)), none, none]) (hs1 := [bagC a b c ns]) rfl) ?_
    refine Eq.trans (seq_nx (Eq.trans (for_ok (rg1_ok (call_ok (ds := [.r 0, .d (.int 63)]) rfl (callM_bag2 e)) ⟨by omega, by omega⟩)) el)) ?_
    generalize deepN v.toNat = dp at e2
    generalize bagC a1 b1 c1 ns = bag at e2
    refine Eq.trans (seq_nx (ρ1 := [some (.r 0), some (.d dp), lap', some (.d (.lst (menu0 dp)))]) (hs1 := [bag]) (by kernel_rfl)) ?_
    refine Eq.trans (seq_nx (ρ1 := [some (.r 0), some (.d dp), lap', some (.d (.lst (menu0 dp ++ menu1 dp)))]) (hs1 := [bag]) (by kernel_rfl)) ?_
    refine Eq.trans (seq_nx (ρ1 := [some (.r 0), some (.d dp), lap', some (.d (.lst (menu0 dp ++ menu1 dp ++ menu2 dp)))]) (hs1 := [bag]) (by kernel_rfl)) ?_
    refine Eq.trans (seq_nx (ρ1 := [some (.r 0), some (.d dp), lap', some (.d (.lst (menu0 dp ++ menu1 dp ++ menu2 dp ++ menu3 dp)))]) (hs1 := [bag]) (by kernel_rfl)) ?_
    refine Eq.trans (seq_nx (ρ1 := [some (.r 0), some (.d dp), lap', some (.d (.lst (menu dp)))]) (hs1 := [bag]) (by kernel_rfl)) ?_
    exact ret_ok (call_ok (ds := [.r 0, .d (.lst (menu dp))]) rfl (callM_bag2 e2))
  show (match b__law_drawn [some (.r 0), none, none, none] [bagC a b c ns] with
    | .rt d hs' => finish 1 d hs'
    | .nx _ hs' => .ok .non (hs'.take 1)
    | .exc c ns ws _ hs' => .exc c ns ws (hs'.take 1)
    | _ => .bad : Out D) = _
  rw [main]
  rfl
end Lk00

set_option Elab.async false
set_option linter.all false
set_option maxRecDepth 1000000
set_option maxHeartbeats 4000000
namespace Lk00
open PySem PySem.Spec PyProof.Rows L2 L2.Py
def R : MS :=
  (mSeq (mSet 4 (mLst (mCons (mCall f_is_integer (mCons (mVar 3) mNil)) (mCons (mCall f_is_count (mCons (mVar 3) mNil)) (mCons (mCall f_is_name (mCons (mVar 3) mNil)) (mCons (mCall f_is_case (mCons (mVar 3) mNil)) (mCons (mCall f_is_fraction (mCons (mVar 3) mNil)) (mCons (mCall f_is_tree_form (mCons (mVar 3) mNil)) mNil))))))))
  (mSeq (mSet 5 (mLst (mCons (mCall f__law_int (mCons (mVar 3) mNil)) (mCons (mAndV (mCall f__law_int (mCons (mVar 3) mNil)) (m2 geF (mVar 3) (mC (.int 0)))) (mCons (mCall f__law_is_name (mCons (mVar 3) mNil)) (mCons (mCall f__law_is_row (mCons (mVar 3) (mCons (mC (.int 400)) mNil))) mNil))))))
  (mSeq (mSet 5 (m2 addF (mVar 5) (mLst (mCons (mCall f__law_is_fraction (mCons (mVar 3) mNil)) (mCons (mCall f__law_is_tree (mCons (mVar 3) mNil)) mNil)))))
  (mSeq (mSet 4 (m2 addF (mVar 4) (mLst (mCons (mCall f_is_names (mCons (mVar 3) mNil)) (mCons (mCall f_is_log_form (mCons (mVar 3) mNil)) (mCons (mCall f_is_machine_form (mCons (mVar 3) mNil)) mNil))))))
  (mSeq (mSet 6 (mAndV (mCall f__law_is_row (mCons (mVar 3) (mCons (m2 powF (mC (.int 10)) (mC (.int 6))) mNil))) (m2 (eqF false) (mLcE [7] (.nm 7) (mRg1 (mCons (m2 subF (mBf lenF (mCons (mVar 3) mNil)) (mC (.int 1))) mNil)) (mB (m2 geF (m2 ixF (mVar 3) (mVar 7)) (m2 ixF (mVar 3) (m2 addF (mVar 7) (mC (.int 1)))))) (mVar 7)) (mLst mNil))))
  (mIfS (mNot (mTru (mCall f__law_alike (mCons (mVar 4) (mCons (m2 addF (mVar 5) (mLst (mCons (mVar 6) (mCons (mCall f__law_is_log (mCons (mVar 3) mNil)) (mCons (mCall f__law_is_machine (mCons (mVar 3) mNil)) mNil))))) mNil))))) (mRet (mC (.bl false))) mSkip))))))
/-- the law's turn goes through -/
def Good (d : D) : Prop := ∃ y4 y5 y6 : Option SV, ∀ (sc tn x4 x5 x6 x7 : Option SV) (bag : Cell), R [sc, some (.r 0), tn, some (.d d), x4, x5, x6, x7] [bag] = .nx [sc, some (.r 0), tn, some (.d d), y4, y5, y6, x7] [bag]
theorem good_0 : Good (.int (0)) := ⟨some (.d (.lst [.bl true, .bl true, .bl false, .bl false, .bl false, .bl false, .bl false, .bl false, .bl false])), some (.d (.lst [.bl true, .bl true, .bl false, .bl false, .bl false, .bl false])), some (.d (.bl false)), fun _ _ _ _ _ _ _ => by kernel_rfl⟩
theorem good_1 : Good (.int (1)) := ⟨some (.d (.lst [.bl true, .bl true, .bl false, .bl false, .bl false, .bl false, .bl false, .bl false, .bl false])), some (.d (.lst [.bl true, .bl true, .bl false, .bl false, .bl false, .bl false])), some (.d (.bl false)), fun _ _ _ _ _ _ _ => by kernel_rfl⟩
theorem good_2 : Good (.int (-1)) := ⟨some (.d (.lst [.bl true, .bl false, .bl false, .bl false, .bl false, .bl false, .bl false, .bl false, .bl false])), some (.d (.lst [.bl true, .bl false, .bl false, .bl false, .bl false, .bl false])), some (.d (.bl false)), fun _ _ _ _ _ _ _ => by kernel_rfl⟩
theorem good_3 : Good (.bl true) := ⟨some (.d (.lst [.bl false, .bl false, .bl false, .bl false, .bl false, .bl false, .bl false, .bl false, .bl false])), some (.d (.lst [.bl false, .bl false, .bl false, .bl false, .bl false, .bl false])), some (.d (.bl false)), fun _ _ _ _ _ _ _ => by kernel_rfl⟩
theorem good_4 : Good (.non) := ⟨some (.d (.lst [.bl false, .bl false, .bl false, .bl false, .bl false, .bl false, .bl false, .bl false, .bl false])), some (.d (.lst [.bl false, .bl false, .bl false, .bl false, .bl false, .bl false])), some (.d (.bl false)), fun _ _ _ _ _ _ _ => by kernel_rfl⟩
theorem good_5 : Good (.str "") := ⟨some (.d (.lst [.bl false, .bl false, .bl false, .bl false, .bl false, .bl false, .bl false, .bl false, .bl false])), some (.d (.lst [.bl false, .bl false, .bl false, .bl false, .bl false, .bl false])), some (.d (.bl false)), fun _ _ _ _ _ _ _ => by kernel_rfl⟩
theorem good_6 : Good (.str "a") := ⟨some (.d (.lst [.bl false, .bl false, .bl true, .bl false, .bl false, .bl false, .bl false, .bl false, .bl false])), some (.d (.lst [.bl false, .bl false, .bl true, .bl false, .bl false, .bl false])), some (.d (.bl false)), fun _ _ _ _ _ _ _ => by kernel_rfl⟩
theorem good_7 : Good (.str "row") := ⟨some (.d (.lst [.bl false, .bl false, .bl false, .bl false, .bl false, .bl false, .bl false, .bl false, .bl false])), some (.d (.lst [.bl false, .bl false, .bl false, .bl false, .bl false, .bl false])), some (.d (.bl false)), fun _ _ _ _ _ _ _ => by kernel_rfl⟩
theorem good_8 : Good (.str "a1") := ⟨some (.d (.lst [.bl false, .bl false, .bl true, .bl false, .bl false, .bl false, .bl false, .bl false, .bl false])), some (.d (.lst [.bl false, .bl false, .bl true, .bl false, .bl false, .bl false])), some (.d (.bl false)), fun _ _ _ _ _ _ _ => by kernel_rfl⟩
theorem good_9 : Good (.str "A") := ⟨some (.d (.lst [.bl false, .bl false, .bl false, .bl false, .bl false, .bl false, .bl false, .bl false, .bl false])), some (.d (.lst [.bl false, .bl false, .bl false, .bl false, .bl false, .bl false])), some (.d (.bl false)), fun _ _ _ _ _ _ _ => by kernel_rfl⟩
theorem good_10 : Good (.str "abcdefgh") := ⟨some (.d (.lst [.bl false, .bl false, .bl true, .bl false, .bl false, .bl false, .bl false, .bl false, .bl false])), some (.d (.lst [.bl false, .bl false, .bl true, .bl false, .bl false, .bl false])), some (.d (.bl false)), fun _ _ _ _ _ _ _ => by kernel_rfl⟩
theorem good_11 : Good (.str "abcdefghi") := ⟨some (.d (.lst [.bl false, .bl false, .bl false, .bl false, .bl false, .bl false, .bl false, .bl false, .bl false])), some (.d (.lst [.bl false, .bl false, .bl false, .bl false, .bl false, .bl false])), some (.d (.bl false)), fun _ _ _ _ _ _ _ => by kernel_rfl⟩
theorem good_12 : Good (.str "1a") := ⟨some (.d (.lst [.bl false, .bl false, .bl false, .bl false, .bl false, .bl false, .bl false, .bl false, .bl false])), some (.d (.lst [.bl false, .bl false, .bl false, .bl false, .bl false, .bl false])), some (.d (.bl false)), fun _ _ _ _ _ _ _ => by kernel_rfl⟩
theorem good_13 : Good (.tup []) := ⟨some (.d (.lst [.bl false, .bl false, .bl false, .bl true, .bl false, .bl false, .bl true, .bl true, .bl false])), some (.d (.lst [.bl false, .bl false, .bl false, .bl true, .bl false, .bl false])), some (.d (.bl true)), fun _ _ _ _ _ _ _ => by kernel_rfl⟩
theorem good_14 : Good (.lst []) := ⟨some (.d (.lst [.bl false, .bl false, .bl false, .bl false, .bl false, .bl false, .bl false, .bl false, .bl false])), some (.d (.lst [.bl false, .bl false, .bl false, .bl false, .bl false, .bl false])), some (.d (.bl false)), fun _ _ _ _ _ _ _ => by kernel_rfl⟩
theorem good_15 : Good (.tup [.str "a"]) := ⟨some (.d (.lst [.bl false, .bl false, .bl false, .bl true, .bl false, .bl false, .bl true, .bl false, .bl false])), some (.d (.lst [.bl false, .bl false, .bl false, .bl true, .bl false, .bl false])), some (.d (.bl true)), fun _ _ _ _ _ _ _ => by kernel_rfl⟩
theorem good_16 : Good (.tup [.str "a", .str "a"]) := ⟨some (.d (.lst [.bl false, .bl false, .bl false, .bl true, .bl false, .bl false, .bl false, .bl false, .bl false])), some (.d (.lst [.bl false, .bl false, .bl false, .bl true, .bl false, .bl false])), some (.d (.bl false)), fun _ _ _ _ _ _ _ => by kernel_rfl⟩
theorem good_17 : Good (.tup [.str "b", .str "a"]) := ⟨some (.d (.lst [.bl false, .bl false, .bl false, .bl true, .bl false, .bl false, .bl false, .bl false, .bl false])), some (.d (.lst [.bl false, .bl false, .bl false, .bl true, .bl false, .bl false])), some (.d (.bl false)), fun _ _ _ _ _ _ _ => by kernel_rfl⟩
theorem good_18 : Good (.tup [.str "a", .str "b"]) := ⟨some (.d (.lst [.bl false, .bl false, .bl false, .bl true, .bl false, .bl false, .bl true, .bl false, .bl false])), some (.d (.lst [.bl false, .bl false, .bl false, .bl true, .bl false, .bl false])), some (.d (.bl true)), fun _ _ _ _ _ _ _ => by kernel_rfl⟩
theorem good_19 : Good (.lst [.str "a"]) := ⟨some (.d (.lst [.bl false, .bl false, .bl false, .bl false, .bl false, .bl false, .bl false, .bl false, .bl false])), some (.d (.lst [.bl false, .bl false, .bl false, .bl false, .bl false, .bl false])), some (.d (.bl false)), fun _ _ _ _ _ _ _ => by kernel_rfl⟩
theorem good_20 : Good (.tup (List.replicate 400 (.str "a"))) := ⟨some (.d (.lst [.bl false, .bl false, .bl false, .bl true, .bl false, .bl false, .bl false, .bl false, .bl false])), some (.d (.lst [.bl false, .bl false, .bl false, .bl true, .bl false, .bl false])), some (.d (.bl false)), fun _ _ _ _ _ _ _ => by kernel_rfl⟩
theorem good_21 : Good (.tup (List.replicate 401 (.str "a"))) := ⟨some (.d (.lst [.bl false, .bl false, .bl false, .bl false, .bl false, .bl false, .bl false, .bl false, .bl false])), some (.d (.lst [.bl false, .bl false, .bl false, .bl false, .bl false, .bl false])), some (.d (.bl false)), fun _ _ _ _ _ _ _ => by kernel_rfl⟩
theorem good_22 : Good (.tup [.int (1), .int (2)]) := ⟨some (.d (.lst [.bl false, .bl false, .bl false, .bl false, .bl true, .bl false, .bl false, .bl false, .bl false])), some (.d (.lst [.bl false, .bl false, .bl false, .bl false, .bl true, .bl false])), some (.d (.bl false)), fun _ _ _ _ _ _ _ => by kernel_rfl⟩
theorem good_23 : Good (.tup [.int (2), .int (4)]) := ⟨some (.d (.lst [.bl false, .bl false, .bl false, .bl false, .bl false, .bl false, .bl false, .bl false, .bl false])), some (.d (.lst [.bl false, .bl false, .bl false, .bl false, .bl false, .bl false])), some (.d (.bl false)), fun _ _ _ _ _ _ _ => by kernel_rfl⟩
theorem good_24 : Good (.tup [.int (0), .int (1)]) := ⟨some (.d (.lst [.bl false, .bl false, .bl false, .bl false, .bl true, .bl false, .bl false, .bl false, .bl false])), some (.d (.lst [.bl false, .bl false, .bl false, .bl false, .bl true, .bl false])), some (.d (.bl false)), fun _ _ _ _ _ _ _ => by kernel_rfl⟩
theorem good_25 : Good (.tup [.int (0), .int (2)]) := ⟨some (.d (.lst [.bl false, .bl false, .bl false, .bl false, .bl false, .bl false, .bl false, .bl false, .bl false])), some (.d (.lst [.bl false, .bl false, .bl false, .bl false, .bl false, .bl false])), some (.d (.bl false)), fun _ _ _ _ _ _ _ => by kernel_rfl⟩
theorem good_26 : Good (.tup [.int (1), .int (0)]) := ⟨some (.d (.lst [.bl false, .bl false, .bl false, .bl false, .bl false, .bl false, .bl false, .bl false, .bl false])), some (.d (.lst [.bl false, .bl false, .bl false, .bl false, .bl false, .bl false])), some (.d (.bl false)), fun _ _ _ _ _ _ _ => by kernel_rfl⟩
theorem good_27 : Good (.tup [.bl true, .int (2)]) := ⟨some (.d (.lst [.bl false, .bl false, .bl false, .bl false, .bl false, .bl false, .bl false, .bl false, .bl false])), some (.d (.lst [.bl false, .bl false, .bl false, .bl false, .bl false, .bl false])), some (.d (.bl false)), fun _ _ _ _ _ _ _ => by kernel_rfl⟩
theorem good_29 : Good (.tup [.str "work", .str "a"]) := ⟨some (.d (.lst [.bl false, .bl false, .bl false, .bl false, .bl false, .bl true, .bl false, .bl false, .bl false])), some (.d (.lst [.bl false, .bl false, .bl false, .bl false, .bl false, .bl true])), some (.d (.bl false)), fun _ _ _ _ _ _ _ => by kernel_rfl⟩
theorem good_30 : Good (.tup [.str "work", .str "row"]) := ⟨some (.d (.lst [.bl false, .bl false, .bl false, .bl false, .bl false, .bl false, .bl false, .bl false, .bl false])), some (.d (.lst [.bl false, .bl false, .bl false, .bl false, .bl false, .bl false])), some (.d (.bl false)), fun _ _ _ _ _ _ _ => by kernel_rfl⟩
theorem good_31 : Good (.tup [.str "work"]) := ⟨some (.d (.lst [.bl false, .bl false, .bl false, .bl false, .bl false, .bl false, .bl false, .bl false, .bl false])), some (.d (.lst [.bl false, .bl false, .bl false, .bl false, .bl false, .bl false])), some (.d (.bl false)), fun _ _ _ _ _ _ _ => by kernel_rfl⟩
theorem good_32 : Good (.tup [.str "quiet"]) := ⟨some (.d (.lst [.bl false, .bl false, .bl false, .bl false, .bl false, .bl true, .bl false, .bl false, .bl false])), some (.d (.lst [.bl false, .bl false, .bl false, .bl false, .bl false, .bl true])), some (.d (.bl false)), fun _ _ _ _ _ _ _ => by kernel_rfl⟩
theorem good_33 : Good (.tup [.str "quiet", .int (1)]) := ⟨some (.d (.lst [.bl false, .bl false, .bl false, .bl false, .bl false, .bl false, .bl false, .bl false, .bl false])), some (.d (.lst [.bl false, .bl false, .bl false, .bl false, .bl false, .bl false])), some (.d (.bl false)), fun _ _ _ _ _ _ _ => by kernel_rfl⟩
theorem good_34 : Good (.tup [.str "row", .tup [.str "quiet"], .tup [.str "work", .str "a"]]) := ⟨some (.d (.lst [.bl false, .bl false, .bl false, .bl false, .bl false, .bl true, .bl false, .bl false, .bl false])), some (.d (.lst [.bl false, .bl false, .bl false, .bl false, .bl false, .bl true])), some (.d (.bl false)), fun _ _ _ _ _ _ _ => by kernel_rfl⟩
theorem good_35 : Good (.tup [.str "row", .tup [.str "quiet"]]) := ⟨some (.d (.lst [.bl false, .bl false, .bl false, .bl false, .bl false, .bl false, .bl false, .bl false, .bl false])), some (.d (.lst [.bl false, .bl false, .bl false, .bl false, .bl false, .bl false])), some (.d (.bl false)), fun _ _ _ _ _ _ _ => by kernel_rfl⟩
theorem good_36 : Good (.tup [.str "again", .tup [.str "quiet"], .tup [.str "quiet"]]) := ⟨some (.d (.lst [.bl false, .bl false, .bl false, .bl false, .bl false, .bl true, .bl false, .bl false, .bl false])), some (.d (.lst [.bl false, .bl false, .bl false, .bl false, .bl false, .bl true])), some (.d (.bl false)), fun _ _ _ _ _ _ _ => by kernel_rfl⟩
theorem good_37 : Good (.tup [.str "again", .tup [.str "quiet"]]) := ⟨some (.d (.lst [.bl false, .bl false, .bl false, .bl false, .bl false, .bl false, .bl false, .bl false, .bl false])), some (.d (.lst [.bl false, .bl false, .bl false, .bl false, .bl false, .bl false])), some (.d (.bl false)), fun _ _ _ _ _ _ _ => by kernel_rfl⟩
theorem good_38 : Good (.tup [.str "one", .str "a", .str "b"]) := ⟨some (.d (.lst [.bl false, .bl false, .bl false, .bl false, .bl false, .bl false, .bl false, .bl false, .bl false])), some (.d (.lst [.bl false, .bl false, .bl false, .bl false, .bl false, .bl false])), some (.d (.bl false)), fun _ _ _ _ _ _ _ => by kernel_rfl⟩
theorem good_39 : Good (.lst [.str "quiet"]) := ⟨some (.d (.lst [.bl false, .bl false, .bl false, .bl false, .bl false, .bl false, .bl false, .bl false, .bl false])), some (.d (.lst [.bl false, .bl false, .bl false, .bl false, .bl false, .bl false])), some (.d (.bl false)), fun _ _ _ _ _ _ _ => by kernel_rfl⟩
theorem good_40 : Good (.tup [.tup [.tup [.str "a"], .int (1)]]) := ⟨some (.d (.lst [.bl false, .bl false, .bl false, .bl false, .bl false, .bl false, .bl false, .bl true, .bl false])), some (.d (.lst [.bl false, .bl false, .bl false, .bl false, .bl false, .bl false])), some (.d (.bl false)), fun _ _ _ _ _ _ _ => by kernel_rfl⟩
theorem good_41 : Good (.tup [.tup [.tup [.str "a"], .int (0)]]) := ⟨some (.d (.lst [.bl false, .bl false, .bl false, .bl false, .bl false, .bl false, .bl false, .bl false, .bl false])), some (.d (.lst [.bl false, .bl false, .bl false, .bl false, .bl false, .bl false])), some (.d (.bl false)), fun _ _ _ _ _ _ _ => by kernel_rfl⟩
theorem good_42 : Good (.tup [.tup [.tup [.str "a"], .bl true]]) := ⟨some (.d (.lst [.bl false, .bl false, .bl false, .bl false, .bl false, .bl false, .bl false, .bl false, .bl false])), some (.d (.lst [.bl false, .bl false, .bl false, .bl false, .bl false, .bl false])), some (.d (.bl false)), fun _ _ _ _ _ _ _ => by kernel_rfl⟩
theorem good_43 : Good (.tup [.tup [.tup [], .int (3)], .tup [.tup [], .int (3)]]) := ⟨some (.d (.lst [.bl false, .bl false, .bl false, .bl false, .bl false, .bl false, .bl false, .bl true, .bl false])), some (.d (.lst [.bl false, .bl false, .bl false, .bl false, .bl false, .bl false])), some (.d (.bl false)), fun _ _ _ _ _ _ _ => by kernel_rfl⟩
theorem good_44 : Good (.tup [.tup [.lst [.str "a"], .int (1)]]) := ⟨some (.d (.lst [.bl false, .bl false, .bl false, .bl false, .bl false, .bl false, .bl false, .bl false, .bl false])), some (.d (.lst [.bl false, .bl false, .bl false, .bl false, .bl false, .bl false])), some (.d (.bl false)), fun _ _ _ _ _ _ _ => by kernel_rfl⟩
theorem good_45 : Good (.tup [.tup [.tup [], .int (1)]]) := ⟨some (.d (.lst [.bl false, .bl false, .bl false, .bl false, .bl false, .bl false, .bl false, .bl true, .bl true])), some (.d (.lst [.bl false, .bl false, .bl false, .bl false, .bl false, .bl false])), some (.d (.bl false)), fun _ _ _ _ _ _ _ => by kernel_rfl⟩
theorem good_46 : Good (.tup [.tup [.tup [.tup [.str "a", .int (0)]], .int (1)]]) := ⟨some (.d (.lst [.bl false, .bl false, .bl false, .bl false, .bl false, .bl false, .bl false, .bl false, .bl true])), some (.d (.lst [.bl false, .bl false, .bl false, .bl false, .bl false, .bl false])), some (.d (.bl false)), fun _ _ _ _ _ _ _ => by kernel_rfl⟩
theorem good_47 : Good (.tup [.tup [.tup [.tup [.str "a", .int (-1)]], .int (1)]]) := ⟨some (.d (.lst [.bl false, .bl false, .bl false, .bl false, .bl false, .bl false, .bl false, .bl false, .bl false])), some (.d (.lst [.bl false, .bl false, .bl false, .bl false, .bl false, .bl false])), some (.d (.bl false)), fun _ _ _ _ _ _ _ => by kernel_rfl⟩
theorem good_48 : Good (.tup [.tup [.tup [], .int (2)]]) := ⟨some (.d (.lst [.bl false, .bl false, .bl false, .bl false, .bl false, .bl false, .bl false, .bl true, .bl false])), some (.d (.lst [.bl false, .bl false, .bl false, .bl false, .bl false, .bl false])), some (.d (.bl false)), fun _ _ _ _ _ _ _ => by kernel_rfl⟩
theorem deep_0 : Good (deepN 0) := ⟨some (.d (.lst [.bl false, .bl false, .bl false, .bl false, .bl false, .bl true, .bl false, .bl false, .bl false])), some (.d (.lst [.bl false, .bl false, .bl false, .bl false, .bl false, .bl true])), some (.d (.bl false)), fun _ _ _ _ _ _ _ => by kernel_rfl⟩
theorem deep_1 : Good (deepN 1) := ⟨some (.d (.lst [.bl false, .bl false, .bl false, .bl false, .bl false, .bl true, .bl false, .bl false, .bl false])), some (.d (.lst [.bl false, .bl false, .bl false, .bl false, .bl false, .bl true])), some (.d (.bl false)), fun _ _ _ _ _ _ _ => by kernel_rfl⟩
theorem deep_2 : Good (deepN 2) := ⟨some (.d (.lst [.bl false, .bl false, .bl false, .bl false, .bl false, .bl true, .bl false, .bl false, .bl false])), some (.d (.lst [.bl false, .bl false, .bl false, .bl false, .bl false, .bl true])), some (.d (.bl false)), fun _ _ _ _ _ _ _ => by kernel_rfl⟩
theorem deep_3 : Good (deepN 3) := ⟨some (.d (.lst [.bl false, .bl false, .bl false, .bl false, .bl false, .bl true, .bl false, .bl false, .bl false])), some (.d (.lst [.bl false, .bl false, .bl false, .bl false, .bl false, .bl true])), some (.d (.bl false)), fun _ _ _ _ _ _ _ => by kernel_rfl⟩
theorem deep_4 : Good (deepN 4) := ⟨some (.d (.lst [.bl false, .bl false, .bl false, .bl false, .bl false, .bl true, .bl false, .bl false, .bl false])), some (.d (.lst [.bl false, .bl false, .bl false, .bl false, .bl false, .bl true])), some (.d (.bl false)), fun _ _ _ _ _ _ _ => by kernel_rfl⟩
theorem deep_5 : Good (deepN 5) := ⟨some (.d (.lst [.bl false, .bl false, .bl false, .bl false, .bl false, .bl true, .bl false, .bl false, .bl false])), some (.d (.lst [.bl false, .bl false, .bl false, .bl false, .bl false, .bl true])), some (.d (.bl false)), fun _ _ _ _ _ _ _ => by kernel_rfl⟩
theorem deep_6 : Good (deepN 6) := ⟨some (.d (.lst [.bl false, .bl false, .bl false, .bl false, .bl false, .bl true, .bl false, .bl false, .bl false])), some (.d (.lst [.bl false, .bl false, .bl false, .bl false, .bl false, .bl true])), some (.d (.bl false)), fun _ _ _ _ _ _ _ => by kernel_rfl⟩
theorem deep_7 : Good (deepN 7) := ⟨some (.d (.lst [.bl false, .bl false, .bl false, .bl false, .bl false, .bl true, .bl false, .bl false, .bl false])), some (.d (.lst [.bl false, .bl false, .bl false, .bl false, .bl false, .bl true])), some (.d (.bl false)), fun _ _ _ _ _ _ _ => by kernel_rfl⟩
theorem deep_8 : Good (deepN 8) := ⟨some (.d (.lst [.bl false, .bl false, .bl false, .bl false, .bl false, .bl true, .bl false, .bl false, .bl false])), some (.d (.lst [.bl false, .bl false, .bl false, .bl false, .bl false, .bl true])), some (.d (.bl false)), fun _ _ _ _ _ _ _ => by kernel_rfl⟩
theorem deep_9 : Good (deepN 9) := ⟨some (.d (.lst [.bl false, .bl false, .bl false, .bl false, .bl false, .bl true, .bl false, .bl false, .bl false])), some (.d (.lst [.bl false, .bl false, .bl false, .bl false, .bl false, .bl true])), some (.d (.bl false)), fun _ _ _ _ _ _ _ => by kernel_rfl⟩
theorem deep_10 : Good (deepN 10) := ⟨some (.d (.lst [.bl false, .bl false, .bl false, .bl false, .bl false, .bl true, .bl false, .bl false, .bl false])), some (.d (.lst [.bl false, .bl false, .bl false, .bl false, .bl false, .bl true])), some (.d (.bl false)), fun _ _ _ _ _ _ _ => by kernel_rfl⟩
theorem deep_11 : Good (deepN 11) := ⟨some (.d (.lst [.bl false, .bl false, .bl false, .bl false, .bl false, .bl true, .bl false, .bl false, .bl false])), some (.d (.lst [.bl false, .bl false, .bl false, .bl false, .bl false, .bl true])), some (.d (.bl false)), fun _ _ _ _ _ _ _ => by kernel_rfl⟩
theorem deep_12 : Good (deepN 12) := ⟨some (.d (.lst [.bl false, .bl false, .bl false, .bl false, .bl false, .bl true, .bl false, .bl false, .bl false])), some (.d (.lst [.bl false, .bl false, .bl false, .bl false, .bl false, .bl true])), some (.d (.bl false)), fun _ _ _ _ _ _ _ => by kernel_rfl⟩
theorem deep_13 : Good (deepN 13) := ⟨some (.d (.lst [.bl false, .bl false, .bl false, .bl false, .bl false, .bl true, .bl false, .bl false, .bl false])), some (.d (.lst [.bl false, .bl false, .bl false, .bl false, .bl false, .bl true])), some (.d (.bl false)), fun _ _ _ _ _ _ _ => by kernel_rfl⟩
theorem deep_14 : Good (deepN 14) := ⟨some (.d (.lst [.bl false, .bl false, .bl false, .bl false, .bl false, .bl true, .bl false, .bl false, .bl false])), some (.d (.lst [.bl false, .bl false, .bl false, .bl false, .bl false, .bl true])), some (.d (.bl false)), fun _ _ _ _ _ _ _ => by kernel_rfl⟩
theorem deep_15 : Good (deepN 15) := ⟨some (.d (.lst [.bl false, .bl false, .bl false, .bl false, .bl false, .bl true, .bl false, .bl false, .bl false])), some (.d (.lst [.bl false, .bl false, .bl false, .bl false, .bl false, .bl true])), some (.d (.bl false)), fun _ _ _ _ _ _ _ => by kernel_rfl⟩
theorem deep_16 : Good (deepN 16) := ⟨some (.d (.lst [.bl false, .bl false, .bl false, .bl false, .bl false, .bl true, .bl false, .bl false, .bl false])), some (.d (.lst [.bl false, .bl false, .bl false, .bl false, .bl false, .bl true])), some (.d (.bl false)), fun _ _ _ _ _ _ _ => by kernel_rfl⟩
theorem deep_17 : Good (deepN 17) := ⟨some (.d (.lst [.bl false, .bl false, .bl false, .bl false, .bl false, .bl true, .bl false, .bl false, .bl false])), some (.d (.lst [.bl false, .bl false, .bl false, .bl false, .bl false, .bl true])), some (.d (.bl false)), fun _ _ _ _ _ _ _ => by kernel_rfl⟩
theorem deep_18 : Good (deepN 18) := ⟨some (.d (.lst [.bl false, .bl false, .bl false, .bl false, .bl false, .bl true, .bl false, .bl false, .bl false])), some (.d (.lst [.bl false, .bl false, .bl false, .bl false, .bl false, .bl true])), some (.d (.bl false)), fun _ _ _ _ _ _ _ => by kernel_rfl⟩
theorem deep_19 : Good (deepN 19) := ⟨some (.d (.lst [.bl false, .bl false, .bl false, .bl false, .bl false, .bl true, .bl false, .bl false, .bl false])), some (.d (.lst [.bl false, .bl false, .bl false, .bl false, .bl false, .bl true])), some (.d (.bl false)), fun _ _ _ _ _ _ _ => by kernel_rfl⟩
theorem deep_20 : Good (deepN 20) := ⟨some (.d (.lst [.bl false, .bl false, .bl false, .bl false, .bl false, .bl true, .bl false, .bl false, .bl false])), some (.d (.lst [.bl false, .bl false, .bl false, .bl false, .bl false, .bl true])), some (.d (.bl false)), fun _ _ _ _ _ _ _ => by kernel_rfl⟩
theorem deep_21 : Good (deepN 21) := ⟨some (.d (.lst [.bl false, .bl false, .bl false, .bl false, .bl false, .bl true, .bl false, .bl false, .bl false])), some (.d (.lst [.bl false, .bl false, .bl false, .bl false, .bl false, .bl true])), some (.d (.bl false)), fun _ _ _ _ _ _ _ => by kernel_rfl⟩
theorem deep_22 : Good (deepN 22) := ⟨some (.d (.lst [.bl false, .bl false, .bl false, .bl false, .bl false, .bl true, .bl false, .bl false, .bl false])), some (.d (.lst [.bl false, .bl false, .bl false, .bl false, .bl false, .bl true])), some (.d (.bl false)), fun _ _ _ _ _ _ _ => by kernel_rfl⟩
theorem deep_23 : Good (deepN 23) := ⟨some (.d (.lst [.bl false, .bl false, .bl false, .bl false, .bl false, .bl true, .bl false, .bl false, .bl false])), some (.d (.lst [.bl false, .bl false, .bl false, .bl false, .bl false, .bl true])), some (.d (.bl false)), fun _ _ _ _ _ _ _ => by kernel_rfl⟩
theorem deep_24 : Good (deepN 24) := ⟨some (.d (.lst [.bl false, .bl false, .bl false, .bl false, .bl false, .bl true, .bl false, .bl false, .bl false])), some (.d (.lst [.bl false, .bl false, .bl false, .bl false, .bl false, .bl true])), some (.d (.bl false)), fun _ _ _ _ _ _ _ => by kernel_rfl⟩
theorem deep_25 : Good (deepN 25) := ⟨some (.d (.lst [.bl false, .bl false, .bl false, .bl false, .bl false, .bl true, .bl false, .bl false, .bl false])), some (.d (.lst [.bl false, .bl false, .bl false, .bl false, .bl false, .bl true])), some (.d (.bl false)), fun _ _ _ _ _ _ _ => by kernel_rfl⟩
theorem deep_26 : Good (deepN 26) := ⟨some (.d (.lst [.bl false, .bl false, .bl false, .bl false, .bl false, .bl true, .bl false, .bl false, .bl false])), some (.d (.lst [.bl false, .bl false, .bl false, .bl false, .bl false, .bl true])), some (.d (.bl false)), fun _ _ _ _ _ _ _ => by kernel_rfl⟩
theorem deep_27 : Good (deepN 27) := ⟨some (.d (.lst [.bl false, .bl false, .bl false, .bl false, .bl false, .bl true, .bl false, .bl false, .bl false])), some (.d (.lst [.bl false, .bl false, .bl false, .bl false, .bl false, .bl true])), some (.d (.bl false)), fun _ _ _ _ _ _ _ => by kernel_rfl⟩
theorem deep_28 : Good (deepN 28) := ⟨some (.d (.lst [.bl false, .bl false, .bl false, .bl false, .bl false, .bl true, .bl false, .bl false, .bl false])), some (.d (.lst [.bl false, .bl false, .bl false, .bl false, .bl false, .bl true])), some (.d (.bl false)), fun _ _ _ _ _ _ _ => by kernel_rfl⟩
theorem deep_29 : Good (deepN 29) := ⟨some (.d (.lst [.bl false, .bl false, .bl false, .bl false, .bl false, .bl true, .bl false, .bl false, .bl false])), some (.d (.lst [.bl false, .bl false, .bl false, .bl false, .bl false, .bl true])), some (.d (.bl false)), fun _ _ _ _ _ _ _ => by kernel_rfl⟩
theorem deep_30 : Good (deepN 30) := ⟨some (.d (.lst [.bl false, .bl false, .bl false, .bl false, .bl false, .bl true, .bl false, .bl false, .bl false])), some (.d (.lst [.bl false, .bl false, .bl false, .bl false, .bl false, .bl true])), some (.d (.bl false)), fun _ _ _ _ _ _ _ => by kernel_rfl⟩
theorem deep_31 : Good (deepN 31) := ⟨some (.d (.lst [.bl false, .bl false, .bl false, .bl false, .bl false, .bl true, .bl false, .bl false, .bl false])), some (.d (.lst [.bl false, .bl false, .bl false, .bl false, .bl false, .bl true])), some (.d (.bl false)), fun _ _ _ _ _ _ _ => by kernel_rfl⟩
theorem deep_32 : Good (deepN 32) := ⟨some (.d (.lst [.bl false, .bl false, .bl false, .bl false, .bl false, .bl true, .bl false, .bl false, .bl false])), some (.d (.lst [.bl false, .bl false, .bl false, .bl false, .bl false, .bl true])), some (.d (.bl false)), fun _ _ _ _ _ _ _ => by kernel_rfl⟩
theorem deep_33 : Good (deepN 33) := ⟨some (.d (.lst [.bl false, .bl false, .bl false, .bl false, .bl false, .bl true, .bl false, .bl false, .bl false])), some (.d (.lst [.bl false, .bl false, .bl false, .bl false, .bl false, .bl true])), some (.d (.bl false)), fun _ _ _ _ _ _ _ => by kernel_rfl⟩
theorem deep_34 : Good (deepN 34) := ⟨some (.d (.lst [.bl false, .bl false, .bl false, .bl false, .bl false, .bl true, .bl false, .bl false, .bl false])), some (.d (.lst [.bl false, .bl false, .bl false, .bl false, .bl false, .bl true])), some (.d (.bl false)), fun _ _ _ _ _ _ _ => by kernel_rfl⟩
theorem deep_35 : Good (deepN 35) := ⟨some (.d (.lst [.bl false, .bl false, .bl false, .bl false, .bl false, .bl true, .bl false, .bl false, .bl false])), some (.d (.lst [.bl false, .bl false, .bl false, .bl false, .bl false, .bl true])), some (.d (.bl false)), fun _ _ _ _ _ _ _ => by kernel_rfl⟩
theorem deep_36 : Good (deepN 36) := ⟨some (.d (.lst [.bl false, .bl false, .bl false, .bl false, .bl false, .bl true, .bl false, .bl false, .bl false])), some (.d (.lst [.bl false, .bl false, .bl false, .bl false, .bl false, .bl true])), some (.d (.bl false)), fun _ _ _ _ _ _ _ => by kernel_rfl⟩
theorem deep_37 : Good (deepN 37) := ⟨some (.d (.lst [.bl false, .bl false, .bl false, .bl false, .bl false, .bl true, .bl false, .bl false, .bl false])), some (.d (.lst [.bl false, .bl false, .bl false, .bl false, .bl false, .bl true])), some (.d (.bl false)), fun _ _ _ _ _ _ _ => by kernel_rfl⟩
theorem deep_38 : Good (deepN 38) := ⟨some (.d (.lst [.bl false, .bl false, .bl false, .bl false, .bl false, .bl true, .bl false, .bl false, .bl false])), some (.d (.lst [.bl false, .bl false, .bl false, .bl false, .bl false, .bl true])), some (.d (.bl false)), fun _ _ _ _ _ _ _ => by kernel_rfl⟩
theorem deep_39 : Good (deepN 39) := ⟨some (.d (.lst [.bl false, .bl false, .bl false, .bl false, .bl false, .bl true, .bl false, .bl false, .bl false])), some (.d (.lst [.bl false, .bl false, .bl false, .bl false, .bl false, .bl true])), some (.d (.bl false)), fun _ _ _ _ _ _ _ => by kernel_rfl⟩
theorem deep_40 : Good (deepN 40) := ⟨some (.d (.lst [.bl false, .bl false, .bl false, .bl false, .bl false, .bl true, .bl false, .bl false, .bl false])), some (.d (.lst [.bl false, .bl false, .bl false, .bl false, .bl false, .bl true])), some (.d (.bl false)), fun _ _ _ _ _ _ _ => by kernel_rfl⟩
theorem deep_41 : Good (deepN 41) := ⟨some (.d (.lst [.bl false, .bl false, .bl false, .bl false, .bl false, .bl true, .bl false, .bl false, .bl false])), some (.d (.lst [.bl false, .bl false, .bl false, .bl false, .bl false, .bl true])), some (.d (.bl false)), fun _ _ _ _ _ _ _ => by kernel_rfl⟩
theorem deep_42 : Good (deepN 42) := ⟨some (.d (.lst [.bl false, .bl false, .bl false, .bl false, .bl false, .bl true, .bl false, .bl false, .bl false])), some (.d (.lst [.bl false, .bl false, .bl false, .bl false, .bl false, .bl true])), some (.d (.bl false)), fun _ _ _ _ _ _ _ => by kernel_rfl⟩
theorem deep_43 : Good (deepN 43) := ⟨some (.d (.lst [.bl false, .bl false, .bl false, .bl false, .bl false, .bl true, .bl false, .bl false, .bl false])), some (.d (.lst [.bl false, .bl false, .bl false, .bl false, .bl false, .bl true])), some (.d (.bl false)), fun _ _ _ _ _ _ _ => by kernel_rfl⟩
theorem deep_44 : Good (deepN 44) := ⟨some (.d (.lst [.bl false, .bl false, .bl false, .bl false, .bl false, .bl true, .bl false, .bl false, .bl false])), some (.d (.lst [.bl false, .bl false, .bl false, .bl false, .bl false, .bl true])), some (.d (.bl false)), fun _ _ _ _ _ _ _ => by kernel_rfl⟩
theorem deep_45 : Good (deepN 45) := ⟨some (.d (.lst [.bl false, .bl false, .bl false, .bl false, .bl false, .bl true, .bl false, .bl false, .bl false])), some (.d (.lst [.bl false, .bl false, .bl false, .bl false, .bl false, .bl true])), some (.d (.bl false)), fun _ _ _ _ _ _ _ => by kernel_rfl⟩
theorem deep_46 : Good (deepN 46) := ⟨some (.d (.lst [.bl false, .bl false, .bl false, .bl false, .bl false, .bl true, .bl false, .bl false, .bl false])), some (.d (.lst [.bl false, .bl false, .bl false, .bl false, .bl false, .bl true])), some (.d (.bl false)), fun _ _ _ _ _ _ _ => by kernel_rfl⟩
theorem deep_47 : Good (deepN 47) := ⟨some (.d (.lst [.bl false, .bl false, .bl false, .bl false, .bl false, .bl true, .bl false, .bl false, .bl false])), some (.d (.lst [.bl false, .bl false, .bl false, .bl false, .bl false, .bl true])), some (.d (.bl false)), fun _ _ _ _ _ _ _ => by kernel_rfl⟩
theorem deep_48 : Good (deepN 48) := ⟨some (.d (.lst [.bl false, .bl false, .bl false, .bl false, .bl false, .bl true, .bl false, .bl false, .bl false])), some (.d (.lst [.bl false, .bl false, .bl false, .bl false, .bl false, .bl true])), some (.d (.bl false)), fun _ _ _ _ _ _ _ => by kernel_rfl⟩
theorem deep_49 : Good (deepN 49) := ⟨some (.d (.lst [.bl false, .bl false, .bl false, .bl false, .bl false, .bl true, .bl false, .bl false, .bl false])), some (.d (.lst [.bl false, .bl false, .bl false, .bl false, .bl false, .bl true])), some (.d (.bl false)), fun _ _ _ _ _ _ _ => by kernel_rfl⟩
theorem deep_50 : Good (deepN 50) := ⟨some (.d (.lst [.bl false, .bl false, .bl false, .bl false, .bl false, .bl true, .bl false, .bl false, .bl false])), some (.d (.lst [.bl false, .bl false, .bl false, .bl false, .bl false, .bl true])), some (.d (.bl false)), fun _ _ _ _ _ _ _ => by kernel_rfl⟩
theorem deep_51 : Good (deepN 51) := ⟨some (.d (.lst [.bl false, .bl false, .bl false, .bl false, .bl false, .bl true, .bl false, .bl false, .bl false])), some (.d (.lst [.bl false, .bl false, .bl false, .bl false, .bl false, .bl true])), some (.d (.bl false)), fun _ _ _ _ _ _ _ => by kernel_rfl⟩
theorem deep_52 : Good (deepN 52) := ⟨some (.d (.lst [.bl false, .bl false, .bl false, .bl false, .bl false, .bl true, .bl false, .bl false, .bl false])), some (.d (.lst [.bl false, .bl false, .bl false, .bl false, .bl false, .bl true])), some (.d (.bl false)), fun _ _ _ _ _ _ _ => by kernel_rfl⟩
theorem deep_53 : Good (deepN 53) := ⟨some (.d (.lst [.bl false, .bl false, .bl false, .bl false, .bl false, .bl true, .bl false, .bl false, .bl false])), some (.d (.lst [.bl false, .bl false, .bl false, .bl false, .bl false, .bl true])), some (.d (.bl false)), fun _ _ _ _ _ _ _ => by kernel_rfl⟩
theorem deep_54 : Good (deepN 54) := ⟨some (.d (.lst [.bl false, .bl false, .bl false, .bl false, .bl false, .bl true, .bl false, .bl false, .bl false])), some (.d (.lst [.bl false, .bl false, .bl false, .bl false, .bl false, .bl true])), some (.d (.bl false)), fun _ _ _ _ _ _ _ => by kernel_rfl⟩
theorem deep_55 : Good (deepN 55) := ⟨some (.d (.lst [.bl false, .bl false, .bl false, .bl false, .bl false, .bl true, .bl false, .bl false, .bl false])), some (.d (.lst [.bl false, .bl false, .bl false, .bl false, .bl false, .bl true])), some (.d (.bl false)), fun _ _ _ _ _ _ _ => by kernel_rfl⟩
theorem deep_56 : Good (deepN 56) := ⟨some (.d (.lst [.bl false, .bl false, .bl false, .bl false, .bl false, .bl true, .bl false, .bl false, .bl false])), some (.d (.lst [.bl false, .bl false, .bl false, .bl false, .bl false, .bl true])), some (.d (.bl false)), fun _ _ _ _ _ _ _ => by kernel_rfl⟩
theorem deep_57 : Good (deepN 57) := ⟨some (.d (.lst [.bl false, .bl false, .bl false, .bl false, .bl false, .bl true, .bl false, .bl false, .bl false])), some (.d (.lst [.bl false, .bl false, .bl false, .bl false, .bl false, .bl true])), some (.d (.bl false)), fun _ _ _ _ _ _ _ => by kernel_rfl⟩
theorem deep_58 : Good (deepN 58) := ⟨some (.d (.lst [.bl false, .bl false, .bl false, .bl false, .bl false, .bl true, .bl false, .bl false, .bl false])), some (.d (.lst [.bl false, .bl false, .bl false, .bl false, .bl false, .bl true])), some (.d (.bl false)), fun _ _ _ _ _ _ _ => by kernel_rfl⟩
theorem deep_59 : Good (deepN 59) := ⟨some (.d (.lst [.bl false, .bl false, .bl false, .bl false, .bl false, .bl true, .bl false, .bl false, .bl false])), some (.d (.lst [.bl false, .bl false, .bl false, .bl false, .bl false, .bl true])), some (.d (.bl false)), fun _ _ _ _ _ _ _ => by kernel_rfl⟩
theorem deep_60 : Good (deepN 60) := ⟨some (.d (.lst [.bl false, .bl false, .bl false, .bl false, .bl false, .bl false, .bl false, .bl false, .bl false])), some (.d (.lst [.bl false, .bl false, .bl false, .bl false, .bl false, .bl false])), some (.d (.bl false)), fun _ _ _ _ _ _ _ => by kernel_rfl⟩
theorem deep_61 : Good (deepN 61) := ⟨some (.d (.lst [.bl false, .bl false, .bl false, .bl false, .bl false, .bl false, .bl false, .bl false, .bl false])), some (.d (.lst [.bl false, .bl false, .bl false, .bl false, .bl false, .bl false])), some (.d (.bl false)), fun _ _ _ _ _ _ _ => by kernel_rfl⟩
theorem deep_62 : Good (deepN 62) := ⟨some (.d (.lst [.bl false, .bl false, .bl false, .bl false, .bl false, .bl false, .bl false, .bl false, .bl false])), some (.d (.lst [.bl false, .bl false, .bl false, .bl false, .bl false, .bl false])), some (.d (.bl false)), fun _ _ _ _ _ _ _ => by kernel_rfl⟩
end Lk00

set_option Elab.async false
set_option linter.all false
set_option maxRecDepth 100000
set_option maxHeartbeats 4000000
namespace Lk00
open PySem PySem.Spec PyProof.Rows L2 L2.Py
theorem good_all : ∀ n, n < 63 → ∀ d ∈ menu (deepN n), Good d := by
  intro n hn d hd
  have hdeep : Good (deepN n) := by
    match n, hn with
    | 0, _ => exact deep_0
    | 1, _ => exact deep_1
    | 2, _ => exact deep_2
    | 3, _ => exact deep_3
    | 4, _ => exact deep_4
    | 5, _ => exact deep_5
    | 6, _ => exact deep_6
    | 7, _ => exact deep_7
    | 8, _ => exact deep_8
    | 9, _ => exact deep_9
    | 10, _ => exact deep_10
    | 11, _ => exact deep_11
    | 12, _ => exact deep_12
    | 13, _ => exact deep_13
    | 14, _ => exact deep_14
    | 15, _ => exact deep_15
    | 16, _ => exact deep_16
    | 17, _ => exact deep_17
    | 18, _ => exact deep_18
    | 19, _ => exact deep_19
    | 20, _ => exact deep_20
    | 21, _ => exact deep_21
    | 22, _ => exact deep_22
    | 23, _ => exact deep_23
    | 24, _ => exact deep_24
    | 25, _ => exact deep_25
    | 26, _ => exact deep_26
    | 27, _ => exact deep_27
    | 28, _ => exact deep_28
    | 29, _ => exact deep_29
    | 30, _ => exact deep_30
    | 31, _ => exact deep_31
    | 32, _ => exact deep_32
    | 33, _ => exact deep_33
    | 34, _ => exact deep_34
    | 35, _ => exact deep_35
    | 36, _ => exact deep_36
    | 37, _ => exact deep_37
    | 38, _ => exact deep_38
    | 39, _ => exact deep_39
    | 40, _ => exact deep_40
    | 41, _ => exact deep_41
    | 42, _ => exact deep_42
    | 43, _ => exact deep_43
    | 44, _ => exact deep_44
    | 45, _ => exact deep_45
    | 46, _ => exact deep_46
    | 47, _ => exact deep_47
    | 48, _ => exact deep_48
    | 49, _ => exact deep_49
    | 50, _ => exact deep_50
    | 51, _ => exact deep_51
    | 52, _ => exact deep_52
    | 53, _ => exact deep_53
    | 54, _ => exact deep_54
    | 55, _ => exact deep_55
    | 56, _ => exact deep_56
    | 57, _ => exact deep_57
    | 58, _ => exact deep_58
    | 59, _ => exact deep_59
    | 60, _ => exact deep_60
    | 61, _ => exact deep_61
    | 62, _ => exact deep_62
    | n + 63, h => omega
  simp only [menu, menu0, menu1, menu2, menu3, menu4, List.mem_append, List.mem_cons, List.not_mem_nil, or_false] at hd
  rcases hd with ((((rfl | rfl | rfl | rfl | rfl | rfl | rfl | rfl | rfl | rfl | rfl | rfl | rfl | rfl | rfl | rfl | rfl | rfl) | (rfl | rfl | rfl | rfl | rfl | rfl | rfl | rfl | rfl | rfl | rfl)) | (rfl | rfl | rfl | rfl | rfl | rfl | rfl)) | (rfl | rfl | rfl | rfl | rfl | rfl)) | (rfl | rfl | rfl | rfl | rfl | rfl | rfl)
  · exact good_0
  · exact good_1
  · exact good_2
  · exact good_3
  · exact good_4
  · exact good_5
  · exact good_6
  · exact good_7
  · exact good_8
  · exact good_9
  · exact good_10
  · exact good_11
  · exact good_12
  · exact good_13
  · exact good_14
  · exact good_15
  · exact good_16
  · exact good_17
  · exact good_18
  · exact good_19
  · exact good_20
  · exact good_21
  · exact good_22
  · exact good_23
  · exact good_24
  · exact good_25
  · exact good_26
  · exact good_27
  · exact hdeep
  · exact good_29
  · exact good_30
  · exact good_31
  · exact good_32
  · exact good_33
  · exact good_34
  · exact good_35
  · exact good_36
  · exact good_37
  · exact good_38
  · exact good_39
  · exact good_40
  · exact good_41
  · exact good_42
  · exact good_43
  · exact good_44
  · exact good_45
  · exact good_46
  · exact good_47
  · exact good_48
/-- one turn -/
theorem turn_ok (sc tn x3 x4 x5 x6 x7 : Option SV) (a b c : Int) (ns : List Int) (hl : ns.length ≤ 1000) (ha : 0 ≤ a) :
    ∃ y3 y4 y5 y6 a' b' c', l_law_1 [sc, some (.r 0), tn, x3, x4, x5, x6, x7] [bagC a b c ns] = .nx [sc, some (.r 0), tn, y3, y4, y5, y6, x7] [bagC a' b' c' ns] ∧ 0 ≤ a' := by
  obtain ⟨n, d, a', b', c', hn, hd, e, q⟩ := drawn_ok a b c ns hl ha
  obtain ⟨y4, y5, y6, g⟩ := good_all n hn d hd
  refine ⟨some (.d d), y4, y5, y6, a', b', c', ?_, q⟩
  show (mSeq (mSet 3 (mCall f__law_drawn (mCons (mVar 1) mNil))) R) _ _ = _
  exact Eq.trans (seq_nx (set_ok (call_ok (ds := [.r 0]) rfl (callM_bag1 e)))) (g sc tn x4 x5 x6 x7 (bagC a' b' c' ns))
theorem turns_ok (sc : Option SV) (ns : List Int) (hl : ns.length ≤ 1000) : ∀ (xs : List D) (tn x3 x4 x5 x6 x7 : Option SV) (a b c : Int), 0 ≤ a →
    ∃ ρ a' b' c', mForL (.nm 2) l_law_1 xs [sc, some (.r 0), tn, x3, x4, x5, x6, x7] [bagC a b c ns] = .nx ρ [bagC a' b' c' ns]
  | [], tn, x3, x4, x5, x6, x7, a, b, c, ha => ⟨_, a, b, c, rfl⟩
  | x :: xs, tn, x3, x4, x5, x6, x7, a, b, c, ha => by
    obtain ⟨y3, y4, y5, y6, a1, b1, c1, e, q⟩ := turn_ok sc (some (.d x)) x3 x4 x5 x6 x7 a b c ns hl ha
    obtain ⟨ρ, a2, b2, c2, e2⟩ := turns_ok sc ns hl xs (some (.d x)) y3 y4 y5 y6 x7 a1 b1 c1 q
    refine ⟨ρ, a2, b2, c2, ?_⟩
    simp only [mForL, mTg, List.set, e]
    exact e2
theorem law_ok (ns : List Int) (hn : ns.length ≤ 63) : f_law [.d (.scr (ns.map .int))] [] = .ok (.bl true) [] := by
  obtain ⟨ms, hm, _, e⟩ := bag_ok ns hn
  obtain ⟨ρ, a, b, c, el⟩ := turns_ok (some (.d (.scr (ns.map .int)))) ms (by omega) (rangeD 0 8) none none none none none none 0 1234567891 0 (Int.le_refl 0)
  have e1 : (mSetNew 1 f__law_bag (mCons (mVar 0) mNil)) [some (.d (.scr (ns.map .int))), none, none, none, none, none, none, none] [] = .nx [some (.d (.scr (ns.map .int))), some (.r 0), none, none, none, none, none, none] [bagC 0 1234567891 0 ms] := by
    show ((match f__law_bag [.d (.scr (ns.map .int))] [] with
      | .ok d cs' => if cs'.length = 0 then .ok d (setAll [] [] cs') else .bad
      | .exc c ns ws cs' => if cs'.length = 0 then .exc c ns ws (setAll [] [] cs') else .bad
      | .bad => .bad : Out Cell).bindS _ _) = _
    rw [e]
    rfl
  have main : b_law [some (.d (.scr (ns.map .int))), none, none, none, none, none, none, none] [] = .rt (.d (.bl true)) [bagC a b c ms] := by
    refine Eq.trans (seq_nx e1) ?_
    refine Eq.trans (seq_nx (ρ1 := [some (.d (.scr (ns.map .int))), some (.r 0), none, none, none, none, none, none]) (hs1 := [bagC 0 1234567891 0 ms]) rfl) ?_
    refine Eq.trans (seq_nx (Eq.trans (for_ok (rg1_ok (j := 8) rfl ⟨by decide, by decide⟩)) el)) ?_
    rfl
  show (match b_law [some (.d (.scr (ns.map .int))), none, none, none, none, none, none, none] [] with
    | .rt d hs' => finish 0 d hs'
    | .nx _ hs' => .ok .non (hs'.take 0)
    | .exc c ns ws _ hs' => .exc c ns ws (hs'.take 0)
    | _ => .bad : Out D) = _
  rw [main]
  rfl
end Lk00

set_option Elab.async false
set_option linter.all false
set_option maxRecDepth 100000
set_option maxHeartbeats 4000000
namespace Lk00
open PySem PySem.Spec PyProof.Rows L2 L2.Py

/-- what the top has written of an own exception class -/
structure Cl (K : PySem.W.Frag) (mg : Str → Option Value) (x : Str) (C TE fc : Addr) : Prop where
  g : mg x = some (.ref C)
  xf : XfC K C
  ec : ExcC K C
  nc : NameC K C x
  mc : MethC K C "class_name" fc
  i1 : PySem.W.kitOne K (.ref C) (.ref TE) = some true
  i2 : PySem.W.kitOne K (.ref C) (.type "ValueError") = some true
def In2 (P : Program) (w : World) (K : PySem.W.Frag) (mg : Str → Option Value) (base : Heap) (C : Addr) (f1 f2 : Str) : Prop :=
  ∃ f F doc pm ct ps, IniC P K C f F doc pm ct ps ∧ FnOk P w K mg base (L2.CX P w) 1 f (F.fd doc pm ct) ps (spI2 C f1 f2) ∧ PySem.W.findIn K (.ref C) f1 = some none ∧ PySem.W.findIn K (.ref C) f2 = some none
def In1 (P : Program) (w : World) (K : PySem.W.Frag) (mg : Str → Option Value) (base : Heap) (C : Addr) (f1 : Str) : Prop :=
  ∃ f F doc pm ct ps, IniC P K C f F doc pm ct ps ∧ FnOk P w K mg base (L2.CX P w) 1 f (F.fd doc pm ct) ps (spI1 C f1) ∧ PySem.W.findIn K (.ref C) f1 = some none
theorem sc_err : FnScope ["thing", "one", "other", "more", "last", "some", "looked", "names", "due", "its"] [] (defScope (topS 46)) := ⟨rfl, rfl, rfl, by decide +kernel, rfl, by decide +kernel, by decide +kernel⟩
section
variable {P : Program} {w : World} {K : PySem.W.Frag} {mg : Str → Option Value} {base : Heap}
abbrev eN : List Str := ["thing", "one", "other", "more", "last", "some", "looked", "names", "due", "its"]
/-- six exceptions -/
structure Six (H : Hp) (l a1 a2 a3 a4 a5 a6 C1 C2 C3 C4 C5 C6 : Addr) : Prop where
  e1 : ExAt H a1 C1 [("fault", .str "x"), ("place", .ref l)]
  e2 : ExAt H a2 C2 [("column", .int 4), ("line", .int 3)]
  e3 : ExAt H a3 C3 [("limit", .int 40), ("what", .str "parts")]
  e4 : ExAt H a4 C4 [("line", .str "a")]
  e5 : ExAt H a5 C5 []
  e6 : ExAt H a6 C6 []
theorem Six.sm {H H' : Hp} {l a1 a2 a3 a4 a5 a6 C1 C2 C3 C4 C5 C6 : Addr} (h : Six H l a1 a2 a3 a4 a5 a6 C1 C2 C3 C4 C5 C6) (s : Sm H H') : Six H' l a1 a2 a3 a4 a5 a6 C1 C2 C3 C4 C5 C6 :=
  ⟨h.e1.sm s, h.e2.sm s, h.e3.sm s, h.e4.sm s, h.e5.sm s, h.e6.sm s⟩
theorem exU {H : Hp} {a C l : Addr} {fs : List (Str × V)} {xs : List V} {o : HO} (h : ExAt H a C fs) (e : H l = some (.lst xs)) : ExAt (upd H l o) a C fs := by
  have ne : ∀ {b : Addr} {u : HO}, H b = some u → (∀ ys, u ≠ .lst ys) → b ≠ l := fun {b u} h1 h2 z => by
    rw [z, e] at h1
    exact h2 xs (Option.some.inj h1).symm
  rcases h with ⟨h1, h2⟩ | ⟨d, h1, h2⟩
  · exact .inl ⟨h1, by rw [upd_ne (ne h2 fun ys z => nomatch z)]; exact h2⟩
  · exact .inr ⟨d, by rw [upd_ne (ne h1 fun ys z => nomatch z)]; exact h1, by rw [upd_ne (ne h2 fun ys z => nomatch z)]; exact h2⟩
theorem exD {H : Hp} {a C : Addr} {p : Str × V} {fs : List (Str × V)} (h : ExAt H a C (p :: fs)) : ∃ d, H a = some (exo a C (some d)) ∧ H d = some (exd d (p :: fs)) := by
  rcases h with ⟨h1, _⟩ | h
  · cases h1
  · exact h
theorem mk2_sp {C a : Addr} {f1 f2 : Str} {v1 v2 : V} {H1 : Hp} {R : Hp → Prop} {E : XK} (hn : H1 a = none) (q : ∀ H2, Sm H1 H2 → ExAt H2 a C [(f2, v2), (f1, v1)] → R H2) : spI2 C f1 f2 [.ref a, v1, v2] (upd H1 a (exo a C none)) (fun v H2 => v = .non ∧ R H2) E := by
  refine ⟨a, v1, v2, rfl, upd_same, fun d hd hne => ⟨rfl, q _ ?_ (.inr ⟨d, ?_, upd_same⟩)⟩⟩
  · have hd' : H1 d = none := by rw [upd_ne hne] at hd; exact hd
    exact Sm.upd (Sm.upd (Sm.upd (Sm.new hn) hd') hn) hd'
  · rw [upd_ne hne.symm, upd_same]
theorem mk1_sp {C a : Addr} {f1 : Str} {v1 : V} {H1 : Hp} {R : Hp → Prop} {E : XK} (hn : H1 a = none) (q : ∀ H2, Sm H1 H2 → ExAt H2 a C [(f1, v1)] → R H2) : spI1 C f1 [.ref a, v1] (upd H1 a (exo a C none)) (fun v H2 => v = .non ∧ R H2) E := by
  refine ⟨a, v1, rfl, upd_same, fun d hd hne => ⟨rfl, q _ ?_ (.inr ⟨d, upd_same, ?_⟩)⟩⟩
  · have hd' : H1 d = none := by rw [upd_ne hne] at hd; exact hd
    exact Sm.upd (Sm.upd (Sm.new hn) hd') hn
  · rw [upd_ne hne, upd_same]
def N0 : Lg := ⟨[], fun _ => False, fun a q => (by simp at q), fun i j a q => (by simp at q)⟩
theorem hrel0 {G : Gd} {H : Hp} : HRel G [] N0 H := ⟨rfl, fun i c a q => (by simp at q), fun a q => q.elim⟩
theorem sm0 {H H' : Hp} {N' : Lg} (e : ExtE H N0 H' N') : Sm H H' := fun a o q => e.keep a o q (.inl fun z => z)
/-- one of the six -/
def OneOf (K : PySem.W.Frag) (mg : Str → Option Value) (TE fc : Addr) (H : Hp) (x : V) (nm : Str) : Prop := ∃ a C fs, x = .ref a ∧ ExAt H a C fs ∧ Cl K mg nm C TE fc ∧ fs.lookup ("class_name" : Str) = none ∧ nm.length ≤ sizeLine
abbrev nmsE : List Str := ["BadTree", "BadText", "TooLarge", "NoCommand", "Nothing", "Unlike"]
theorem cal_errors (T : Mo K mg) (D : DefG K mg "_law_errors" (topS 46) []) {C1 C2 C3 C4 C5 C6 TE fc : Addr} {fdc : FuncData} (c1 : Cl K mg "BadTree" C1 TE fc) (c2 : Cl K mg "BadText" C2 TE fc) (c3 : Cl K mg "TooLarge" C3 TE fc) (c4 : Cl K mg "NoCommand" C4 TE fc) (c5 : Cl K mg "Nothing" C5 TE fc) (c6 : Cl K mg "Unlike" C6 TE fc)
    (n1 : In2 P w K mg base C1 "place" "fault") (n2 : In2 P w K mg base C2 "line" "column") (n3 : In2 P w K mg base C3 "what" "limit") (n4 : In1 P w K mg base C4 "line")
    (x5 : PySem.W.excIn K C5 [Value.type "ValueError", Value.type "Exception", Value.type "BaseException", Value.type "object"] "ValueError.__new__" = true) (x6 : PySem.W.excIn K C6 [Value.type "ValueError", Value.type "Exception", Value.type "BaseException", Value.type "object"] "ValueError.__new__" = true)
    (k5 : PySem.W.keepIn K (.ref C5) = true) (k6 : PySem.W.keepIn K (.ref C6) = true) (gT : mg "TreeError" = some (.ref TE)) (zV : mg "ValueError" = none) (fcn : FnOk P w K mg base (L2.CX P w) 1 fc fdc ["self"] (spCN K)) (bc : Binds K fdc ["self"] []) (kc : PySem.W.keepIn K (.ref fc) = true) :
    CalG P w K mg base 20 "_law_errors" 0 f__law_errors := by
  obtain ⟨f, fd, F, g, b⟩ := D
  have sc := sc_err
  have CA : CalG P w K mg base 1 "_law_alike" 2 f__law_alike := cal__law_alike T
  obtain ⟨f1, F1, d1, pm1, ct1, ps1, I1, J1, o1, o2⟩ := n1
  obtain ⟨f2, F2, d2, pm2, ct2, ps2, I2, J2, o3, o4⟩ := n2
  obtain ⟨f3, F3, d3, pm3, ct3, ps3, I3, J3, o5, o6⟩ := n3
  obtain ⟨f4, F4, d4, pm4, ct4, ps4, I4, J4, o7⟩ := n4
  refine ⟨f, fd, [], fnG_of (Ns := eN) F sc (fun vs H Q E h => h.1) fun cdv A outer s H vs Q E hg hr ⟨hl, ds, hs, N, h1, h2, h3⟩ => ?_, g, F.kp, b⟩
  obtain ⟨fa, fda, psa, FA, gA, kA, bA⟩ := CA.mono (j := 19)
  have hr1 : Room (1 + 1) (A.deeper (envOfC "_law_errors" (defScope (topS 46)) s.heap.objs.size f cdv)) := hr.mono (by decide)
  have hr0 : Room 1 (A.deeper (envOfC "_law_errors" (defScope (topS 46)) s.heap.objs.size f cdv)) := hr.mono (by decide)
  have s0 : PS (cxOf (L2.CX P w) P w K mg base eN "_law_errors" (defScope (topS 46)) f cdv A outer s H E) ((defBody (topS 46)).getD 0 (.Pass ⟨0, 0, 0, 0⟩)) _ := (ps_set (i := 0) sc.nd (by rfl) (.inl rfl) (pe_lst (pa_cons pe_non pa_nil)))
  have s1 : PS (cxOf (L2.CX P w) P w K mg base eN "_law_errors" (defScope (topS 46)) f cdv A outer s H E) ((defBody (topS 46)).getD 1 (.Pass ⟨0, 0, 0, 0⟩)) _ := (ps_asg (pe_tup (pa_cons (pe_oexV I1.Z.T I1.iC I1.tI J1 hr1 I1.b (by rfl) c1.g (pa_cons (pv 0) (pa_cons pe_str pa_nil)))
        (pa_cons (pe_oexV I2.Z.T I2.iC I2.tI J2 hr1 I2.b (by rfl) c2.g (pa_cons pe_int (pa_cons pe_int pa_nil)))
        (pa_cons (pe_oexV I3.Z.T I3.iC I3.tI J3 hr1 I3.b (by rfl) c3.g (pa_cons pe_str (pa_cons pe_int pa_nil)))
        (pa_cons (pe_oexV I4.Z.T I4.iC I4.tI J4 hr1 I4.b (by rfl) c4.g (pa_cons pe_str pa_nil)) pa_nil)))))
        (pg_tup rfl (pgs_cons (pg_name (i := 1) sc.nd (by rfl) (.inl rfl)) (pgs_cons (pg_name (i := 2) sc.nd (by rfl) (.inl rfl)) (pgs_cons (pg_name (i := 3) sc.nd (by rfl) (.inl rfl)) (pgs_cons (pg_name (i := 4) sc.nd (by rfl) (.inl rfl)) pgs_nil))))))
  have s2 : PS (cxOf (L2.CX P w) P w K mg base eN "_law_errors" (defScope (topS 46)) f cdv A outer s H E) ((defBody (topS 46)).getD 2 (.Pass ⟨0, 0, 0, 0⟩)) _ := (ps_expr (pe_bm PySem.F.plainAttrs_list PySem.F.slot_list_append PySem.F.type_list_append mt_append (pv 0) (pa_cons pe_int pa_nil)))
  have s3 : PS (cxOf (L2.CX P w) P w K mg base eN "_law_errors" (defScope (topS 46)) f cdv A outer s H E) ((defBody (topS 46)).getD 3 (.Pass ⟨0, 0, 0, 0⟩)) _ := (ps_set (i := 5) sc.nd (by rfl) (.inl rfl) (pe_lst (pa_cons (pv 1) (pa_cons (pv 2) (pa_cons (pv 3) (pa_cons (pv 4) (pa_cons (pe_oex0 PySem.F.excBase_ValueError x5 c5.g k5 (by rfl)) (pa_cons (pe_oex0 PySem.F.excBase_ValueError x6 c6.g k6 (by rfl)) pa_nil))))))))
  have s4 : PS (cxOf (L2.CX P w) P w K mg base eN "_law_errors" (defScope (topS 46)) f cdv A outer s H E) ((defBody (topS 46)).getD 4 (.Pass ⟨0, 0, 0, 0⟩)) _ := (ps_if (pt_cmpR (or_ne hr) (pe_lc (own := [("its", 9)]) rfl sc.nd (pi_list (pv 5)) (blkOk_by (show blkC eN (defScope (topS 46)) _ [("its", 9)] = true from by decide +kernel))
          (fun _ _ _ _ _ => pg_name (i := 9) sc.nd (by rfl) (.inl rfl))
          (fun _ _ _ _ _ => pts_one (PW.pt (pw_or (pt_not (pt_val (pe_callB (id := "isinstance") (r := rIsX K) call_isX (by rfl) T.z_isinstance (by decide +kernel) (pa_cons (pv 9) (pa_cons (pe_glob (v := .ref TE) (by rfl) gT rfl) pa_nil)))))
            (pw_or1 (pt_not (pt_val (pe_callB (id := "isinstance") (r := rIsX K) call_isX (by rfl) T.z_isinstance (by decide +kernel) (pa_cons (pv 9) (pa_cons (pe_bltn (v := .ty "ValueError") (by rfl) zV (by decide +kernel) rfl) pa_nil)))))))))
          (fun _ _ _ _ _ => pv 9)) (pe_lst pa_nil) (nomark _))
        (pss_one (ps_ret pe_bl)) pss_nil)
  have s5 : PS (cxOf (L2.CX P w) P w K mg base eN "_law_errors" (defScope (topS 46)) f cdv A outer s H E) ((defBody (topS 46)).getD 5 (.Pass ⟨0, 0, 0, 0⟩)) _ := (ps_set (i := 6) sc.nd (by rfl) (.inl rfl) (pe_lst (pa_cons (pe_fld c1.xf o1 (pv 1)) (pa_cons (pe_fld c1.xf o2 (pv 1)) (pa_cons (pe_fld c2.xf o3 (pv 2)) (pa_cons (pe_fld c2.xf o4 (pv 2)) (pa_cons (pe_fld c3.xf o5 (pv 3)) (pa_cons (pe_fld c3.xf o6 (pv 3)) (pa_cons (pe_fld c4.xf o7 (pv 4)) pa_nil)))))))))
  have s6 : PS (cxOf (L2.CX P w) P w K mg base eN "_law_errors" (defScope (topS 46)) f cdv A outer s H E) ((defBody (topS 46)).getD 6 (.Pass ⟨0, 0, 0, 0⟩)) _ := ps_setLc (te := fun σ H Q => tVar 9 σ H fun x H1 => ∃ a C fs, x = .ref a ∧ ExAt H1 a C fs ∧ MethC K C "class_name" fc ∧ fs.lookup ("class_name" : Str) = none ∧ spCN K [.ref a] H1 Q (fun _ _ _ => False)) (own := [("its", 9)]) (i := 7) rfl sc.nd (by rfl) (by rfl) (by rfl) (pi_list (pv 5)) (blkOk_by (show blkC eN (defScope (topS 46)) _ [("its", 9)] = true from by decide +kernel))
          (fun _ _ _ _ _ => pg_name (i := 9) sc.nd (by rfl) (.inl rfl)) (fun _ _ _ _ _ => pts_nil) (fun _ _ _ _ _ => pe_xmeth fcn hr0 bc kc (pv 9))
  have s7 : PS (cxOf (L2.CX P w) P w K mg base eN "_law_errors" (defScope (topS 46)) f cdv A outer s H E) ((defBody (topS 46)).getD 7 (.Pass ⟨0, 0, 0, 0⟩)) _ := (ps_set (i := 8) sc.nd (by rfl) (.inl rfl) (pe_lst (pa_cons pe_str (pa_cons pe_str (pa_cons pe_str (pa_cons pe_str (pa_cons pe_str (pa_cons pe_str pa_nil))))))))
  have s8 : PS (cxOf (L2.CX P w) P w K mg base eN "_law_errors" (defScope (topS 46)) f cdv A outer s H E) ((defBody (topS 46)).getD 8 (.Pass ⟨0, 0, 0, 0⟩)) _ := (ps_ret (pe_callG FA hg hr (by rfl) gA kA bA (W := fun cls d _ H => E cls d H) (takes_of rfl rfl rfl rfl)
      (pa_cons (pe_lst (pa_cons (pv 6) (pa_cons (pv 7) pa_nil))) (pa_cons (pe_lst (pa_cons (pe_lst (pa_cons (pe_lst (pa_cons pe_non (pa_cons pe_int pa_nil))) (pa_cons pe_str (pa_cons pe_int (pa_cons pe_int (pa_cons pe_str (pa_cons pe_int (pa_cons pe_str pa_nil)))))))) (pa_cons (pv 8) pa_nil))) pa_nil))))
  refine ⟨_, pss_cons s0 (pss_cons s1 (pss_cons s2 (pss_cons s3 (pss_cons s4 (pss_cons s5 (pss_cons s6 (pss_cons s7 (pss_one s8)))))))), ?_⟩
  obtain rfl : vs = [] := List.length_eq_zero_iff.mp hl
  have fin : ∀ H', Sm H H' → Q (.bl true) H' := fun H' m => h3 (.bl true) N H' (ext_sm h1 m).1 (ext_sm h1 m).2 rfl
  -- thing = [None]
  refine ⟨(by decide : 1 ≤ sizeLine), fun l nl => ?_⟩
  have m0 : Sm H (upd H l (.lst [.non])) := Sm.new nl
  have e0 : (upd H l (.lst [.non])) l = some (.lst [.non]) := upd_same
  generalize upd H l (.lst [.non]) = H0 at m0 e0
  -- the four
  refine ⟨.ref l, rfl, (by decide : 2 ≤ 1000), fun a1 k1 => mk2_sp k1 fun H1 m1 E1 => ?_⟩
  refine ⟨(by decide : 2 ≤ 1000), fun a2 k2 => mk2_sp k2 fun H2 m2 E2 => ?_⟩
  refine ⟨(by decide : 2 ≤ 1000), fun a3 k3 => mk2_sp k3 fun H3 m3 E3 => ?_⟩
  refine ⟨(by decide : 1 ≤ 1000), fun a4 k4 => mk1_sp k4 fun H4 m4 E4 => ?_⟩
  refine ⟨(by decide : 4 ≤ sizeLine), fun p np => ?_⟩
  have m5 : Sm H4 (upd H4 p (.tup [.ref a1, .ref a2, .ref a3, .ref a4])) := Sm.new np
  have e5 : (upd H4 p (.tup [.ref a1, .ref a2, .ref a3, .ref a4])) p = some (.tup [.ref a1, .ref a2, .ref a3, .ref a4]) := upd_same
  have m04 : Sm H0 H4 := ((m1.trans m2).trans m3).trans m4
  have E1 := E1.sm (((m2.trans m3).trans m4).trans m5)
  have E2 := E2.sm ((m3.trans m4).trans m5)
  have E3 := E3.sm (m4.trans m5)
  have E4 := E4.sm m5
  have el := (m04.trans m5) _ _ e0
  have mH := m0.trans (m04.trans m5)
  refine ⟨p, [.ref a1, .ref a2, .ref a3, .ref a4], rfl, .inl (.inl upd_same), rfl, .ref a1, _, rfl, .ref a2, _, rfl, .ref a3, _, rfl, .ref a4, [], rfl, rfl, ?_⟩
  generalize upd H4 p (.tup [.ref a1, .ref a2, .ref a3, .ref a4]) = H5 at E1 E2 E3 E4 el mH
  -- thing.append(7)
  refine ⟨.ref l, rfl, .inl ⟨rfl, _, .inl (.inl el)⟩, l, [.non], .int 7, rfl, rfl, el, (by decide : 1 < sizeLine), ?_⟩
  have E1 := exU (o := .lst ([V.non] ++ [V.int 7])) E1 el
  have E2 := exU (o := .lst ([V.non] ++ [V.int 7])) E2 el
  have E3 := exU (o := .lst ([V.non] ++ [V.int 7])) E3 el
  have E4 := exU (o := .lst ([V.non] ++ [V.int 7])) E4 el
  have mH : Sm H (upd H5 l (.lst ([V.non] ++ [V.int 7]))) := Sm.upd mH nl
  have el : (upd H5 l (.lst ([V.non] ++ [V.int 7]))) l = some (.lst ([V.non] ++ [V.int 7])) := upd_same
  generalize upd H5 l (.lst ([V.non] ++ [V.int 7])) = H6 at E1 E2 E3 E4 el mH ⊢
  -- some = [..]
  refine ⟨.ref a1, rfl, .ref a2, rfl, .ref a3, rfl, .ref a4, rfl, fun a5 q5 => fun a6 q6 => ⟨(by decide : 6 ≤ sizeLine), fun so qs => ?_⟩⟩
  have m7 : Sm H6 (upd (upd (upd H6 a5 (ExO (.ref C5) a5)) a6 (ExO (.ref C6) a6)) so (.lst [.ref a1, .ref a2, .ref a3, .ref a4, .ref a5, .ref a6])) := ((Sm.new q5).trans (Sm.new q6)).trans (Sm.new qs)
  have E5 : ExAt (upd (upd (upd H6 a5 (ExO (.ref C5) a5)) a6 (ExO (.ref C6) a6)) so (.lst [.ref a1, .ref a2, .ref a3, .ref a4, .ref a5, .ref a6])) a5 C5 [] := ExAt.sm (.inl ⟨rfl, upd_same⟩) ((Sm.new q6).trans (Sm.new qs))
  have E6 : ExAt (upd (upd (upd H6 a5 (ExO (.ref C5) a5)) a6 (ExO (.ref C6) a6)) so (.lst [.ref a1, .ref a2, .ref a3, .ref a4, .ref a5, .ref a6])) a6 C6 [] := ExAt.sm (.inl ⟨rfl, upd_same⟩) (Sm.new qs)
  have es : (upd (upd (upd H6 a5 (ExO (.ref C5) a5)) a6 (ExO (.ref C6) a6)) so (.lst [.ref a1, .ref a2, .ref a3, .ref a4, .ref a5, .ref a6])) so = some (.lst [.ref a1, .ref a2, .ref a3, .ref a4, .ref a5, .ref a6]) := upd_same
  have E1 := E1.sm m7
  have E2 := E2.sm m7
  have E3 := E3.sm m7
  have E4 := E4.sm m7
  have el := m7 _ _ el
  have mH := mH.trans m7
  generalize upd (upd (upd H6 a5 (ExO (.ref C5) a5)) a6 (ExO (.ref C6) a6)) so (.lst [.ref a1, .ref a2, .ref a3, .ref a4, .ref a5, .ref a6]) = H9 at E1 E2 E3 E4 E5 E6 es el mH ⊢
  clear m7
  have six : ∀ H', Sm H9 H' → ∀ (i : Nat) (x : V), [V.ref a1, .ref a2, .ref a3, .ref a4, .ref a5, .ref a6][i]? = some x → ∃ nm, nmsE[i]? = some nm ∧ OneOf K mg TE fc H' x nm := fun H' m i x hx => by
    match i, hx with
    | 0, hx => cases hx; exact ⟨_, rfl, a1, C1, _, rfl, E1.sm m, c1, by kernel_rfl, by decide⟩
    | 1, hx => cases hx; exact ⟨_, rfl, a2, C2, _, rfl, E2.sm m, c2, by kernel_rfl, by decide⟩
    | 2, hx => cases hx; exact ⟨_, rfl, a3, C3, _, rfl, E3.sm m, c3, by kernel_rfl, by decide⟩
    | 3, hx => cases hx; exact ⟨_, rfl, a4, C4, _, rfl, E4.sm m, c4, by kernel_rfl, by decide⟩
    | 4, hx => cases hx; exact ⟨_, rfl, a5, C5, _, rfl, E5.sm m, c5, by kernel_rfl, by decide⟩
    | 5, hx => cases hx; exact ⟨_, rfl, a6, C6, _, rfl, E6.sm m, c6, by kernel_rfl, by decide⟩
    | i + 6, hx => simp at hx
  -- the test
  refine ⟨.ref so, rfl, so, rfl, ⟨_, .inl (.inl es)⟩, fun Dd nD => ?_⟩
  refine lc_list (xs := [V.ref a1, .ref a2, .ref a3, .ref a4, .ref a5, .ref a6]) (fun i H' => Sm H9 H' ∧ H' Dd = some (.lst [])) ⟨Sm.new nD, upd_same⟩ (fun i H' _ hh => .inl (.inl (hh.1 _ _ es))) (fun i x H' hx hh => ?_) (fun H' hh => ?_)
  · obtain ⟨nm, _, a, C, fs, rfl, ea, cc, _, _⟩ := six H' hh.1 i x hx
    refine ⟨rfl, .ref a, rfl, a, C, fs, .ref TE, .ref TE, true, rfl, ea, cc.ec, fun u r => r, cc.i1, true, rfl, ?_⟩
    refine ⟨.ref a, rfl, a, C, fs, .ty "ValueError", .type "ValueError", true, rfl, ea, cc.ec, fun u r => r, cc.i2, true, rfl, ?_⟩
    exact hh
  obtain ⟨mA, eD⟩ := hh
  refine ⟨(by decide : 0 ≤ sizeLine), fun q nq => ?_⟩
  refine ⟨[], N0, .d (.lst []), .d (.lst []), .bl false, hrel0, ⟨Dd, [], rfl, fun z => z, Sm.new nq _ _ eD, rfl⟩, ⟨q, [], rfl, fun z => z, upd_same, rfl⟩, by kernel_rfl, fun v HB ya yb yr => ?_⟩
  have mB : Sm H9 HB := (mA.trans (Sm.new nq)).trans (sm0 yb)
  obtain rfl : v = .bl false := yr
  refine ⟨false, rfl, ?_⟩
  show tNext _ _ _
  clear nq ya yb eD mA nD
  have six := fun H' (m : Sm HB H') => six H' (mB.trans m)
  have E1 := E1.sm mB
  have E2 := E2.sm mB
  have E3 := E3.sm mB
  have E4 := E4.sm mB
  have el := mB _ _ el
  have es := mB _ _ es
  have mH := mH.trans mB
  -- looked
  obtain ⟨d1, x1, y1⟩ := exD E1
  obtain ⟨d2, x2, y2⟩ := exD E2
  obtain ⟨d3, x3, y3⟩ := exD E3
  obtain ⟨d4, x4, y4⟩ := exD E4
  refine ⟨.ref a1, rfl, a1, d1, _, .ref l, rfl, x1, y1, by kernel_rfl, .ref a1, rfl, a1, d1, _, .str "x", rfl, x1, y1, by kernel_rfl, .ref a2, rfl, a2, d2, _, .int 3, rfl, x2, y2, by kernel_rfl, .ref a2, rfl, a2, d2, _, .int 4, rfl, x2, y2, by kernel_rfl,
    .ref a3, rfl, a3, d3, _, .str "parts", rfl, x3, y3, by kernel_rfl, .ref a3, rfl, a3, d3, _, .int 40, rfl, x3, y3, by kernel_rfl, .ref a4, rfl, a4, d4, _, .str "a", rfl, x4, y4, by kernel_rfl, (by decide : 7 ≤ sizeLine), fun lo nlo => ?_⟩
  have m12 : Sm HB (upd HB lo (.lst [.ref l, .str "x", .int 3, .int 4, .str "parts", .int 40, .str "a"])) := Sm.new nlo
  have elo : (upd HB lo (.lst [.ref l, .str "x", .int 3, .int 4, .str "parts", .int 40, .str "a"])) lo = some (.lst [.ref l, .str "x", .int 3, .int 4, .str "parts", .int 40, .str "a"]) := upd_same
  generalize upd HB lo (.lst [.ref l, .str "x", .int 3, .int 4, .str "parts", .int 40, .str "a"]) = HC at m12 elo ⊢
  have el := m12 _ _ el
  have es := m12 _ _ es
  have mH := mH.trans m12
  have six := fun H' (m : Sm HC H') => six H' (m12.trans m)
  -- names
  refine ⟨.ref so, rfl, so, rfl, ⟨_, .inl (.inl es)⟩, fun Dn nDn => ?_⟩
  refine lc_list (K := K) (g := gName 9) (tt := tYes) (vs := [9]) (te := fun σ H Q => tVar 9 σ H fun x H1 => ∃ a C fs, x = .ref a ∧ ExAt H1 a C fs ∧ MethC K C "class_name" fc ∧ fs.lookup ("class_name" : Str) = none ∧ spCN K [.ref a] H1 Q (fun _ _ _ => False)) (xs := [V.ref a1, .ref a2, .ref a3, .ref a4, .ref a5, .ref a6]) (fun i H' => Sm HC H' ∧ H' Dn = some (.lst ((nmsE.take i).map V.str))) ⟨Sm.new nDn, upd_same⟩ (fun i H' _ hh => .inl (.inl (hh.1 _ _ es))) (fun i x H' hx hh => ?_) (fun H' hh => ?_)
  · obtain ⟨nm, hnm, a, C, fs, rfl, ea, cc, hcn, hz⟩ := six H' hh.1 i x hx
    refine ⟨rfl, ?_⟩
    unfold tYes
    dsimp only
    rw [if_pos rfl]
    refine ⟨.ref a, rfl, a, C, fs, rfl, ea, cc.mc, hcn, a, C, fs, nm, rfl, ea, cc.ec, cc.nc, hz, _, hh.2, ?_, Sm.upd hh.1 nDn, ?_⟩
    · rw [List.length_map, List.length_take]
      exact Nat.lt_of_le_of_lt (Nat.min_le_right _ _) (by decide)
    · rw [upd_same, List.take_add_one, hnm, List.map_append]
      rfl
  obtain ⟨mD, eN⟩ := hh
  have eN : H' Dn = some (.lst [.str "BadTree", .str "BadText", .str "TooLarge", .str "NoCommand", .str "Nothing", .str "Unlike"]) := eN
  -- due
  refine ⟨(by decide : 6 ≤ sizeLine), fun du ndu => ?_⟩
  have mE : Sm H' (upd H' du (.lst [.str "BadTree", .str "BadText", .str "TooLarge", .str "NoCommand", .str "Nothing", .str "Unlike"])) := Sm.new ndu
  have edu : (upd H' du (.lst [.str "BadTree", .str "BadText", .str "TooLarge", .str "NoCommand", .str "Nothing", .str "Unlike"])) du = some (.lst [.str "BadTree", .str "BadText", .str "TooLarge", .str "NoCommand", .str "Nothing", .str "Unlike"]) := upd_same
  generalize upd H' du (.lst [.str "BadTree", .str "BadText", .str "TooLarge", .str "NoCommand", .str "Nothing", .str "Unlike"]) = HE at mE edu ⊢
  have eN := mE _ _ eN
  have el := (mD.trans mE) _ _ el
  have elo := (mD.trans mE) _ _ elo
  have mH := mH.trans (mD.trans mE)
  -- what is given back
  refine ⟨.ref lo, rfl, .ref Dn, rfl, (by decide : 2 ≤ sizeLine), fun A1 nA1 => ⟨(by decide : 2 ≤ sizeLine), fun b1 nb1 => ⟨(by decide : 7 ≤ sizeLine), fun b2 nb2 => ⟨.ref du, rfl, (by decide : 2 ≤ sizeLine), fun b3 nb3 => ?_⟩⟩⟩⟩
  have s4 := Sm.new (o := .lst [.ref b2, .ref du]) nb3
  have s3 := (Sm.new (o := .lst [.ref b1, .str "x", .int 3, .int 4, .str "parts", .int 40, .str "a"]) nb2).trans s4
  have s2 := (Sm.new (o := .lst [.non, .int 7]) nb1).trans s3
  have s1 := (Sm.new (o := .lst [.ref lo, .ref Dn]) nA1).trans s2
  have zA : _ := s2 A1 _ upd_same
  have zb1 : _ := s3 b1 _ upd_same
  have zb2 : _ := s4 b2 _ upd_same
  have nn : ∀ a : Addr, ¬ N0.L a := fun a z => z
  have ed : f__law_alike [.d (.lst [.lst [.lst [.non, .int 7], .str "x", .int 3, .int 4, .str "parts", .int 40, .str "a"], .lst [.str "BadTree", .str "BadText", .str "TooLarge", .str "NoCommand", .str "Nothing", .str "Unlike"]]),
      .d (.lst [.lst [.lst [.non, .int 7], .str "x", .int 3, .int 4, .str "parts", .int 40, .str "a"], .lst [.str "BadTree", .str "BadText", .str "TooLarge", .str "NoCommand", .str "Nothing", .str "Unlike"]])] [] = .ok (.bl true) [] := by kernel_rfl
  refine ⟨rfl, [.d (.lst [.lst [.lst [.non, .int 7], .str "x", .int 3, .int 4, .str "parts", .int 40, .str "a"], .lst [.str "BadTree", .str "BadText", .str "TooLarge", .str "NoCommand", .str "Nothing", .str "Unlike"]]),
      .d (.lst [.lst [.lst [.non, .int 7], .str "x", .int 3, .int 4, .str "parts", .int 40, .str "a"], .lst [.str "BadTree", .str "BadText", .str "TooLarge", .str "NoCommand", .str "Nothing", .str "Unlike"]])], [], N0, hrel0, ⟨.ref A1, [.ref b3], rfl, ?_, .ref b3, [], rfl, ?_, rfl⟩, ?_⟩
  · exact ⟨A1, _, rfl, nn _, zA, .ref lo, _, rfl, ⟨lo, _, rfl, nn _, s1 _ _ elo, .ref l, _, rfl, ⟨l, _, rfl, nn _, s1 _ _ el, _, _, rfl, rfl, _, _, rfl, rfl, rfl⟩, _, _, rfl, rfl, _, _, rfl, rfl, _, _, rfl, rfl, _, _, rfl, rfl, _, _, rfl, rfl, _, _, rfl, rfl, rfl⟩,
      .ref Dn, _, rfl, ⟨Dn, _, rfl, nn _, s1 _ _ eN, _, _, rfl, rfl, _, _, rfl, rfl, _, _, rfl, rfl, _, _, rfl, rfl, _, _, rfl, rfl, _, _, rfl, rfl, rfl⟩, rfl⟩
  · exact ⟨b3, _, rfl, nn _, upd_same, .ref b2, _, rfl, ⟨b2, _, rfl, nn _, zb2, .ref b1, _, rfl, ⟨b1, _, rfl, nn _, zb1, _, _, rfl, rfl, _, _, rfl, rfl, rfl⟩, _, _, rfl, rfl, _, _, rfl, rfl, _, _, rfl, rfl, _, _, rfl, rfl, _, _, rfl, rfl, _, _, rfl, rfl, rfl⟩,
      .ref du, _, rfl, ⟨du, _, rfl, nn _, s1 _ _ edu, _, _, rfl, rfl, _, _, rfl, rfl, _, _, rfl, rfl, _, _, rfl, rfl, _, _, rfl, rfl, _, _, rfl, rfl, rfl⟩, rfl⟩
  · rw [ed]
    intro v N' HZ _ zb zr
    obtain rfl : v = .bl true := zr
    exact fin HZ ((mH.trans s1).trans (sm0 zb))
end
end Lk00

section
open PySem PySem.W PyProof.Rows
set_option maxRecDepth 100000 in
set_option maxHeartbeats 0 in
open_top head for PySem.Challenge.rw_casetrees_k00_errors_and_forms
end

set_option Elab.async false
set_option linter.all false
set_option maxRecDepth 100000
set_option maxHeartbeats 4000000
namespace Lk00
open PySem PySem.Spec PyProof.Rows L2 L2.Py
theorem fng_law {P : Program} {w : World} {K : PySem.W.Frag} {mg : Str → Option Value} {base : Heap} (T : Mo K mg) (G__law_errors : CalG P w K mg base 20 "_law_errors" 0 f__law_errors) {f : Addr} {fd : FuncData} (F : Fun K "law" "law" (topS 47) f fd) : FnG P w K mg base 21 f fd ["script"] (spOf ⟨K, mg⟩ 1 f_law) := by
  have sc := sc_law
  have C__law_bag : CalN P w K mg base 1 "_law_bag" 1 f__law_bag := cal__law_bag T
  have C__law_errors : CalG P w K mg base 20 "_law_errors" 0 f__law_errors := G__law_errors
  have C__law_drawn : CalG P w K mg base 3 "_law_drawn" 1 f__law_drawn := cal__law_drawn T
  have C_is_integer : CalG P w K mg base 1 "is_integer" 1 f_is_integer := cal_is_integer T
  have C_is_count : CalG P w K mg base 2 "is_count" 1 f_is_count := cal_is_count T
  have C_is_name : CalG P w K mg base 1 "is_name" 1 f_is_name := cal_is_name T
  have C_is_case : CalG P w K mg base 3 "is_case" 1 f_is_case := cal_is_case T
  have C_is_fraction : CalG P w K mg base 2 "is_fraction" 1 f_is_fraction := cal_is_fraction T
  have C_is_tree_form : CalG P w K mg base 3 "is_tree_form" 1 f_is_tree_form := cal_is_tree_form T
  have C__law_int : CalG P w K mg base 1 "_law_int" 1 f__law_int := cal__law_int T
  have C__law_is_name : CalG P w K mg base 1 "_law_is_name" 1 f__law_is_name := cal__law_is_name T
  have C__law_is_row : CalG P w K mg base 2 "_law_is_row" 2 f__law_is_row := cal__law_is_row T
  have C__law_alike : CalG P w K mg base 1 "_law_alike" 2 f__law_alike := cal__law_alike T
  have C__law_is_fraction : CalG P w K mg base 2 "_law_is_fraction" 1 f__law_is_fraction := cal__law_is_fraction T
  have C__law_is_tree : CalG P w K mg base 2 "_law_is_tree" 1 f__law_is_tree := cal__law_is_tree T
  have C_is_names : CalG P w K mg base 3 "is_names" 1 f_is_names := cal_is_names T
  have C_is_log_form : CalG P w K mg base 5 "is_log_form" 1 f_is_log_form := cal_is_log_form T
  have C_is_machine_form : CalG P w K mg base 7 "is_machine_form" 1 f_is_machine_form := cal_is_machine_form T
  have C__law_is_log : CalG P w K mg base 3 "_law_is_log" 1 f__law_is_log := cal__law_is_log T
  have C__law_is_machine : CalG P w K mg base 2 "_law_is_machine" 1 f__law_is_machine := cal__law_is_machine T
  refine fn_ok (k := 20) (b := b_law) F sc rfl fun cdv A outer s H E Pd hg hr => ?_
  exact (ss_cons (ss_setNewG (i := 1) (C__law_bag.mono) hg hr (takes_of rfl rfl rfl rfl) (by rfl) sc.nd (by rfl) (by first | exact .inl rfl | exact .inr rfl) (sa_cons (se_var (pv 0)) sa_nil) (mCons_len mNil_len))
  (ss_cons (ss_if (st_not (st_tru (se_callG0 (C__law_errors.mono) hg hr (takes_of rfl rfl rfl rfl) (by rfl)))) (ss_one (ss_ret se_bl)) ss_nil)
  (ss_cons (ss_for (passes_of rfl) rfl (si_range1 (by rfl) T.z_range (sa_cons se_int sa_nil)) (sg_nm (i := 2) sc.nd (by rfl) (by first | exact .inl rfl | exact .inr rfl)) (ss_cons (ss_set (i := 3) sc.nd (by rfl) (by first | exact .inl rfl | exact .inr rfl) (se_callG (C__law_drawn.mono) hg hr (takes_of rfl rfl rfl rfl) (by rfl) (sa_cons (se_var (pv 1)) sa_nil) (mCons_len mNil_len)))
  (ss_cons (ss_set (i := 4) sc.nd (by rfl) (by first | exact .inl rfl | exact .inr rfl) (se_lst (sa_cons (se_callG (C_is_integer.mono) hg hr (takes_of rfl rfl rfl rfl) (by rfl) (sa_cons (se_var (pv 3)) sa_nil) (mCons_len mNil_len)) (sa_cons (se_callG (C_is_count.mono) hg hr (takes_of rfl rfl rfl rfl) (by rfl) (sa_cons (se_var (pv 3)) sa_nil) (mCons_len mNil_len)) (sa_cons (se_callG (C_is_name.mono) hg hr (takes_of rfl rfl rfl rfl) (by rfl) (sa_cons (se_var (pv 3)) sa_nil) (mCons_len mNil_len)) (sa_cons (se_callG (C_is_case.mono) hg hr (takes_of rfl rfl rfl rfl) (by rfl) (sa_cons (se_var (pv 3)) sa_nil) (mCons_len mNil_len)) (sa_cons (se_callG (C_is_fraction.mono) hg hr (takes_of rfl rfl rfl rfl) (by rfl) (sa_cons (se_var (pv 3)) sa_nil) (mCons_len mNil_len)) (sa_cons (se_callG (C_is_tree_form.mono) hg hr (takes_of rfl rfl rfl rfl) (by rfl) (sa_cons (se_var (pv 3)) sa_nil) (mCons_len mNil_len)) sa_nil))))))))
  (ss_cons (ss_set (i := 5) sc.nd (by rfl) (by first | exact .inl rfl | exact .inr rfl) (se_lst (sa_cons (se_callG (C__law_int.mono) hg hr (takes_of rfl rfl rfl rfl) (by rfl) (sa_cons (se_var (pv 3)) sa_nil) (mCons_len mNil_len)) (sa_cons (se_and (se_callG (C__law_int.mono) hg hr (takes_of rfl rfl rfl rfl) (by rfl) (sa_cons (se_var (pv 3)) sa_nil) (mCons_len mNil_len)) (se_one (se_cmp or_ge (se_var (pv 3)) se_int))) (sa_cons (se_callG (C__law_is_name.mono) hg hr (takes_of rfl rfl rfl rfl) (by rfl) (sa_cons (se_var (pv 3)) sa_nil) (mCons_len mNil_len)) (sa_cons (se_callG (C__law_is_row.mono) hg hr (takes_of rfl rfl rfl rfl) (by rfl) (sa_cons (se_var (pv 3)) (sa_cons se_int sa_nil)) (mCons_len (mCons_len mNil_len))) sa_nil))))))
  (ss_cons (ss_set (i := 5) sc.nd (by rfl) (by first | exact .inl rfl | exact .inr rfl) (se_op or_add (se_var (pv 5)) (se_lst (sa_cons (se_callG (C__law_is_fraction.mono) hg hr (takes_of rfl rfl rfl rfl) (by rfl) (sa_cons (se_var (pv 3)) sa_nil) (mCons_len mNil_len)) (sa_cons (se_callG (C__law_is_tree.mono) hg hr (takes_of rfl rfl rfl rfl) (by rfl) (sa_cons (se_var (pv 3)) sa_nil) (mCons_len mNil_len)) sa_nil)))))
  (ss_cons (ss_set (i := 4) sc.nd (by rfl) (by first | exact .inl rfl | exact .inr rfl) (se_op or_add (se_var (pv 4)) (se_lst (sa_cons (se_callG (C_is_names.mono) hg hr (takes_of rfl rfl rfl rfl) (by rfl) (sa_cons (se_var (pv 3)) sa_nil) (mCons_len mNil_len)) (sa_cons (se_callG (C_is_log_form.mono) hg hr (takes_of rfl rfl rfl rfl) (by rfl) (sa_cons (se_var (pv 3)) sa_nil) (mCons_len mNil_len)) (sa_cons (se_callG (C_is_machine_form.mono) hg hr (takes_of rfl rfl rfl rfl) (by rfl) (sa_cons (se_var (pv 3)) sa_nil) (mCons_len mNil_len)) sa_nil))))))
  (ss_cons (ss_set (i := 6) sc.nd (by rfl) (by first | exact .inl rfl | exact .inr rfl) (se_and (se_callG (C__law_is_row.mono) hg hr (takes_of rfl rfl rfl rfl) (by rfl) (sa_cons (se_var (pv 3)) (sa_cons (se_op or_pow se_int se_int) sa_nil)) (mCons_len (mCons_len mNil_len))) (se_one (se_cmp (or_eq hr) (se_lc (own := [("k", 7)]) rfl sc.nd (blkOk_by (show blkC ["script", "bag", "turn", "thing", "looked", "due", "rising", "k"] (defScope (topS 47)) _ [("k", 7)] = true from by decide +kernel)) (by decide +kernel) (si_range1 (by rfl) T.z_range (sa_cons (se_op or_sub (se_callB cr_len (by rfl) T.z_len (by decide +kernel) (sa_cons (se_var (pv 3)) sa_nil)) se_int) sa_nil)) (fun _ _ _ _ _ => (sg_nm (i := 7) sc.nd (by rfl) (by first | exact .inl rfl | exact .inr rfl))) (fun _ _ _ _ _ => (sts_one (st_cmp or_ge (se_ix (se_var (pv 3)) (se_var (pv 7))) (se_ix (se_var (pv 3)) (se_op or_add (se_var (pv 7)) se_int))))) (fun _ _ _ _ _ => (se_var (pv 7)))) (se_lst sa_nil)))))
  (ss_one (ss_if (st_not (st_tru (se_callG (C__law_alike.mono) hg hr (takes_of rfl rfl rfl rfl) (by rfl) (sa_cons (se_var (pv 4)) (sa_cons (se_op or_add (se_var (pv 5)) (se_lst (sa_cons (se_var (pv 6)) (sa_cons (se_callG (C__law_is_log.mono) hg hr (takes_of rfl rfl rfl rfl) (by rfl) (sa_cons (se_var (pv 3)) sa_nil) (mCons_len mNil_len)) (sa_cons (se_callG (C__law_is_machine.mono) hg hr (takes_of rfl rfl rfl rfl) (by rfl) (sa_cons (se_var (pv 3)) sa_nil) (mCons_len mNil_len)) sa_nil))))) sa_nil)) (mCons_len (mCons_len mNil_len))))) (ss_one (ss_ret se_bl)) ss_nil)))))))))
  (ss_one (ss_ret se_bl)))))
theorem mo_mk {K : PySem.W.Frag} {h : Heap} {mg : Str → Option Value} (X : K.In h) (G : h.Ns mainGlobals mg)
    {f0 : Addr} {od0 an0 : Option Addr} {sl0 : Array (Option Value)} {oc0 kV0 dc0 pm0 cd0 ct0 : Value}
    {f1 : Addr} {od1 an1 : Option Addr} {sl1 : Array (Option Value)} {oc1 kV1 dc1 pm1 cd1 ct1 : Value}
    {f2 : Addr} {od2 an2 : Option Addr} {sl2 : Array (Option Value)} {oc2 kV2 dc2 pm2 cd2 ct2 : Value}
    {f3 : Addr} {od3 an3 : Option Addr} {sl3 : Array (Option Value)} {oc3 kV3 dc3 pm3 cd3 ct3 : Value}
    {f4 : Addr} {od4 an4 : Option Addr} {sl4 : Array (Option Value)} {oc4 kV4 dc4 pm4 cd4 ct4 : Value}
    {f5 : Addr} {od5 an5 : Option Addr} {sl5 : Array (Option Value)} {oc5 kV5 dc5 pm5 cd5 ct5 : Value}
    {f6 : Addr} {od6 an6 : Option Addr} {sl6 : Array (Option Value)} {oc6 kV6 dc6 pm6 cd6 ct6 : Value}
    {f7 : Addr} {od7 an7 : Option Addr} {sl7 : Array (Option Value)} {oc7 kV7 dc7 pm7 cd7 ct7 : Value}
    {f8 : Addr} {od8 an8 : Option Addr} {sl8 : Array (Option Value)} {oc8 kV8 dc8 pm8 cd8 ct8 : Value}
    {f9 : Addr} {od9 an9 : Option Addr} {sl9 : Array (Option Value)} {oc9 kV9 dc9 pm9 cd9 ct9 : Value}
    {f10 : Addr} {od10 an10 : Option Addr} {sl10 : Array (Option Value)} {oc10 kV10 dc10 pm10 cd10 ct10 : Value}
    {f11 : Addr} {od11 an11 : Option Addr} {sl11 : Array (Option Value)} {oc11 kV11 dc11 pm11 cd11 ct11 : Value}
    {f12 : Addr} {od12 an12 : Option Addr} {sl12 : Array (Option Value)} {oc12 kV12 dc12 pm12 cd12 ct12 : Value}
    {f13 : Addr} {od13 an13 : Option Addr} {sl13 : Array (Option Value)} {oc13 kV13 dc13 pm13 cd13 ct13 : Value}
    {f14 : Addr} {od14 an14 : Option Addr} {sl14 : Array (Option Value)} {oc14 kV14 dc14 pm14 cd14 ct14 : Value}
    {f15 : Addr} {od15 an15 : Option Addr} {sl15 : Array (Option Value)} {oc15 kV15 dc15 pm15 cd15 ct15 : Value}
    {f16 : Addr} {od16 an16 : Option Addr} {sl16 : Array (Option Value)} {oc16 kV16 dc16 pm16 cd16 ct16 : Value}
    {f17 : Addr} {od17 an17 : Option Addr} {sl17 : Array (Option Value)} {oc17 kV17 dc17 pm17 cd17 ct17 : Value}
    {f18 : Addr} {od18 an18 : Option Addr} {sl18 : Array (Option Value)} {oc18 kV18 dc18 pm18 cd18 ct18 : Value}
    {f19 : Addr} {od19 an19 : Option Addr} {sl19 : Array (Option Value)} {oc19 kV19 dc19 pm19 cd19 ct19 : Value}
    {f20 : Addr} {od20 an20 : Option Addr} {sl20 : Array (Option Value)} {oc20 kV20 dc20 pm20 cd20 ct20 : Value}
    {f21 : Addr} {od21 an21 : Option Addr} {sl21 : Array (Option Value)} {oc21 kV21 dc21 pm21 cd21 ct21 : Value}
    {f22 : Addr} {od22 an22 : Option Addr} {sl22 : Array (Option Value)} {oc22 kV22 dc22 pm22 cd22 ct22 : Value}
    {f23 : Addr} {od23 an23 : Option Addr} {sl23 : Array (Option Value)} {oc23 kV23 dc23 pm23 cd23 ct23 : Value}
    {f24 : Addr} {od24 an24 : Option Addr} {sl24 : Array (Option Value)} {oc24 kV24 dc24 pm24 cd24 ct24 : Value}
    {f25 : Addr} {od25 an25 : Option Addr} {sl25 : Array (Option Value)} {oc25 kV25 dc25 pm25 cd25 ct25 : Value}
    {f26 : Addr} {od26 an26 : Option Addr} {sl26 : Array (Option Value)} {oc26 kV26 dc26 pm26 cd26 ct26 : Value}
    {f27 : Addr} {od27 an27 : Option Addr} {sl27 : Array (Option Value)} {oc27 kV27 dc27 pm27 cd27 ct27 : Value}
    {f28 : Addr} {od28 an28 : Option Addr} {sl28 : Array (Option Value)} {oc28 kV28 dc28 pm28 cd28 ct28 : Value}
    {f29 : Addr} {od29 an29 : Option Addr} {sl29 : Array (Option Value)} {oc29 kV29 dc29 pm29 cd29 ct29 : Value}
    {u_DIGITS : Value}
    {u_LETTERS : Value}
    {b_MANY : Addr} {o_MANY : Obj}
    {u_MOST_DEEP : Value}
    {u_MOST_LETTERS : Value}
    {u_MOST_NAMES : Value}
    {b_RESERVED : Addr} {o_RESERVED : Obj}
    (a0 : PySem.W.nsIn K mainGlobals "_law_bag" = some (some (.ref f0))) (l0 : K.lookup f0 = some ⟨oc0, od0, .func (PySem.W.fnOf "_law_bag" "_law_bag" (defArgs (topS 33)) (defBody (topS 33)) (defScope (topS 33)) .none kV0 dc0 pm0 an0 cd0 ct0), sl0⟩) (c0 : PySem.W.codeIn K cd0 "_law_bag" = true) (k0 : PySem.W.keepIn K (.ref f0) = true)
    (a1 : PySem.W.nsIn K mainGlobals "_law_take" = some (some (.ref f1))) (l1 : K.lookup f1 = some ⟨oc1, od1, .func (PySem.W.fnOf "_law_take" "_law_take" (defArgs (topS 34)) (defBody (topS 34)) (defScope (topS 34)) .none kV1 dc1 pm1 an1 cd1 ct1), sl1⟩) (c1 : PySem.W.codeIn K cd1 "_law_take" = true) (k1 : PySem.W.keepIn K (.ref f1) = true)
    (a2 : PySem.W.nsIn K mainGlobals "_law_some" = some (some (.ref f2))) (l2 : K.lookup f2 = some ⟨oc2, od2, .func (PySem.W.fnOf "_law_some" "_law_some" (defArgs (topS 35)) (defBody (topS 35)) (defScope (topS 35)) .none kV2 dc2 pm2 an2 cd2 ct2), sl2⟩) (c2 : PySem.W.codeIn K cd2 "_law_some" = true) (k2 : PySem.W.keepIn K (.ref f2) = true)
    (a3 : PySem.W.nsIn K mainGlobals "_law_drawn" = some (some (.ref f3))) (l3 : K.lookup f3 = some ⟨oc3, od3, .func (PySem.W.fnOf "_law_drawn" "_law_drawn" (defArgs (topS 45)) (defBody (topS 45)) (defScope (topS 45)) .none kV3 dc3 pm3 an3 cd3 ct3), sl3⟩) (c3 : PySem.W.codeIn K cd3 "_law_drawn" = true) (k3 : PySem.W.keepIn K (.ref f3) = true)
    (a4 : PySem.W.nsIn K mainGlobals "is_integer" = some (some (.ref f4))) (l4 : K.lookup f4 = some ⟨oc4, od4, .func (PySem.W.fnOf "is_integer" "is_integer" (defArgs (topS 16)) (defBody (topS 16)) (defScope (topS 16)) .none kV4 dc4 pm4 an4 cd4 ct4), sl4⟩) (c4 : PySem.W.codeIn K cd4 "is_integer" = true) (k4 : PySem.W.keepIn K (.ref f4) = true)
    (a5 : PySem.W.nsIn K mainGlobals "is_count" = some (some (.ref f5))) (l5 : K.lookup f5 = some ⟨oc5, od5, .func (PySem.W.fnOf "is_count" "is_count" (defArgs (topS 17)) (defBody (topS 17)) (defScope (topS 17)) .none kV5 dc5 pm5 an5 cd5 ct5), sl5⟩) (c5 : PySem.W.codeIn K cd5 "is_count" = true) (k5 : PySem.W.keepIn K (.ref f5) = true)
    (a6 : PySem.W.nsIn K mainGlobals "is_name" = some (some (.ref f6))) (l6 : K.lookup f6 = some ⟨oc6, od6, .func (PySem.W.fnOf "is_name" "is_name" (defArgs (topS 18)) (defBody (topS 18)) (defScope (topS 18)) .none kV6 dc6 pm6 an6 cd6 ct6), sl6⟩) (c6 : PySem.W.codeIn K cd6 "is_name" = true) (k6 : PySem.W.keepIn K (.ref f6) = true)
    (a7 : PySem.W.nsIn K mainGlobals "is_tuple_of" = some (some (.ref f7))) (l7 : K.lookup f7 = some ⟨oc7, od7, .func (PySem.W.fnOf "is_tuple_of" "is_tuple_of" (defArgs (topS 19)) (defBody (topS 19)) (defScope (topS 19)) .none kV7 dc7 pm7 an7 cd7 ct7), sl7⟩) (c7 : PySem.W.codeIn K cd7 "is_tuple_of" = true) (k7 : PySem.W.keepIn K (.ref f7) = true)
    (a8 : PySem.W.nsIn K mainGlobals "is_case" = some (some (.ref f8))) (l8 : K.lookup f8 = some ⟨oc8, od8, .func (PySem.W.fnOf "is_case" "is_case" (defArgs (topS 22)) (defBody (topS 22)) (defScope (topS 22)) .none kV8 dc8 pm8 an8 cd8 ct8), sl8⟩) (c8 : PySem.W.codeIn K cd8 "is_case" = true) (k8 : PySem.W.keepIn K (.ref f8) = true)
    (a9 : PySem.W.nsIn K mainGlobals "divisor_of" = some (some (.ref f9))) (l9 : K.lookup f9 = some ⟨oc9, od9, .func (PySem.W.fnOf "divisor_of" "divisor_of" (defArgs (topS 23)) (defBody (topS 23)) (defScope (topS 23)) .none kV9 dc9 pm9 an9 cd9 ct9), sl9⟩) (c9 : PySem.W.codeIn K cd9 "divisor_of" = true) (k9 : PySem.W.keepIn K (.ref f9) = true)
    (a10 : PySem.W.nsIn K mainGlobals "is_fraction" = some (some (.ref f10))) (l10 : K.lookup f10 = some ⟨oc10, od10, .func (PySem.W.fnOf "is_fraction" "is_fraction" (defArgs (topS 24)) (defBody (topS 24)) (defScope (topS 24)) .none kV10 dc10 pm10 an10 cd10 ct10), sl10⟩) (c10 : PySem.W.codeIn K cd10 "is_fraction" = true) (k10 : PySem.W.keepIn K (.ref f10) = true)
    (a11 : PySem.W.nsIn K mainGlobals "inner_in" = some (some (.ref f11))) (l11 : K.lookup f11 = some ⟨oc11, od11, .func (PySem.W.fnOf "inner_in" "inner_in" (defArgs (topS 25)) (defBody (topS 25)) (defScope (topS 25)) .none kV11 dc11 pm11 an11 cd11 ct11), sl11⟩) (c11 : PySem.W.codeIn K cd11 "inner_in" = true) (k11 : PySem.W.keepIn K (.ref f11) = true)
    (a12 : PySem.W.nsIn K mainGlobals "is_tree_form" = some (some (.ref f12))) (l12 : K.lookup f12 = some ⟨oc12, od12, .func (PySem.W.fnOf "is_tree_form" "is_tree_form" (defArgs (topS 26)) (defBody (topS 26)) (defScope (topS 26)) .none kV12 dc12 pm12 an12 cd12 ct12), sl12⟩) (c12 : PySem.W.codeIn K cd12 "is_tree_form" = true) (k12 : PySem.W.keepIn K (.ref f12) = true)
    (a13 : PySem.W.nsIn K mainGlobals "_law_int" = some (some (.ref f13))) (l13 : K.lookup f13 = some ⟨oc13, od13, .func (PySem.W.fnOf "_law_int" "_law_int" (defArgs (topS 37)) (defBody (topS 37)) (defScope (topS 37)) .none kV13 dc13 pm13 an13 cd13 ct13), sl13⟩) (c13 : PySem.W.codeIn K cd13 "_law_int" = true) (k13 : PySem.W.keepIn K (.ref f13) = true)
    (a14 : PySem.W.nsIn K mainGlobals "_law_is_name" = some (some (.ref f14))) (l14 : K.lookup f14 = some ⟨oc14, od14, .func (PySem.W.fnOf "_law_is_name" "_law_is_name" (defArgs (topS 38)) (defBody (topS 38)) (defScope (topS 38)) .none kV14 dc14 pm14 an14 cd14 ct14), sl14⟩) (c14 : PySem.W.codeIn K cd14 "_law_is_name" = true) (k14 : PySem.W.keepIn K (.ref f14) = true)
    (a15 : PySem.W.nsIn K mainGlobals "_law_is_row" = some (some (.ref f15))) (l15 : K.lookup f15 = some ⟨oc15, od15, .func (PySem.W.fnOf "_law_is_row" "_law_is_row" (defArgs (topS 39)) (defBody (topS 39)) (defScope (topS 39)) .none kV15 dc15 pm15 an15 cd15 ct15), sl15⟩) (c15 : PySem.W.codeIn K cd15 "_law_is_row" = true) (k15 : PySem.W.keepIn K (.ref f15) = true)
    (a16 : PySem.W.nsIn K mainGlobals "_law_alike" = some (some (.ref f16))) (l16 : K.lookup f16 = some ⟨oc16, od16, .func (PySem.W.fnOf "_law_alike" "_law_alike" (defArgs (topS 36)) (defBody (topS 36)) (defScope (topS 36)) .none kV16 dc16 pm16 an16 cd16 ct16), sl16⟩) (c16 : PySem.W.codeIn K cd16 "_law_alike" = true) (k16 : PySem.W.keepIn K (.ref f16) = true)
    (a17 : PySem.W.nsIn K mainGlobals "_law_gcd" = some (some (.ref f17))) (l17 : K.lookup f17 = some ⟨oc17, od17, .func (PySem.W.fnOf "_law_gcd" "_law_gcd" (defArgs (topS 43)) (defBody (topS 43)) (defScope (topS 43)) .none kV17 dc17 pm17 an17 cd17 ct17), sl17⟩) (c17 : PySem.W.codeIn K cd17 "_law_gcd" = true) (k17 : PySem.W.keepIn K (.ref f17) = true)
    (a18 : PySem.W.nsIn K mainGlobals "_law_is_fraction" = some (some (.ref f18))) (l18 : K.lookup f18 = some ⟨oc18, od18, .func (PySem.W.fnOf "_law_is_fraction" "_law_is_fraction" (defArgs (topS 44)) (defBody (topS 44)) (defScope (topS 44)) .none kV18 dc18 pm18 an18 cd18 ct18), sl18⟩) (c18 : PySem.W.codeIn K cd18 "_law_is_fraction" = true) (k18 : PySem.W.keepIn K (.ref f18) = true)
    (a19 : PySem.W.nsIn K mainGlobals "_law_is_tree" = some (some (.ref f19))) (l19 : K.lookup f19 = some ⟨oc19, od19, .func (PySem.W.fnOf "_law_is_tree" "_law_is_tree" (defArgs (topS 40)) (defBody (topS 40)) (defScope (topS 40)) .none kV19 dc19 pm19 an19 cd19 ct19), sl19⟩) (c19 : PySem.W.codeIn K cd19 "_law_is_tree" = true) (k19 : PySem.W.keepIn K (.ref f19) = true)
    (a20 : PySem.W.nsIn K mainGlobals "are_rising" = some (some (.ref f20))) (l20 : K.lookup f20 = some ⟨oc20, od20, .func (PySem.W.fnOf "are_rising" "are_rising" (defArgs (topS 20)) (defBody (topS 20)) (defScope (topS 20)) .none kV20 dc20 pm20 an20 cd20 ct20), sl20⟩) (c20 : PySem.W.codeIn K cd20 "are_rising" = true) (k20 : PySem.W.keepIn K (.ref f20) = true)
    (a21 : PySem.W.nsIn K mainGlobals "is_names" = some (some (.ref f21))) (l21 : K.lookup f21 = some ⟨oc21, od21, .func (PySem.W.fnOf "is_names" "is_names" (defArgs (topS 21)) (defBody (topS 21)) (defScope (topS 21)) .none kV21 dc21 pm21 an21 cd21 ct21), sl21⟩) (c21 : PySem.W.codeIn K cd21 "is_names" = true) (k21 : PySem.W.keepIn K (.ref f21) = true)
    (a22 : PySem.W.nsIn K mainGlobals "is_counted" = some (some (.ref f22))) (l22 : K.lookup f22 = some ⟨oc22, od22, .func (PySem.W.fnOf "is_counted" "is_counted" (defArgs (topS 27)) (defBody (topS 27)) (defScope (topS 27)) .none kV22 dc22 pm22 an22 cd22 ct22), sl22⟩) (c22 : PySem.W.codeIn K cd22 "is_counted" = true) (k22 : PySem.W.keepIn K (.ref f22) = true)
    (a23 : PySem.W.nsIn K mainGlobals "is_log_form" = some (some (.ref f23))) (l23 : K.lookup f23 = some ⟨oc23, od23, .func (PySem.W.fnOf "is_log_form" "is_log_form" (defArgs (topS 28)) (defBody (topS 28)) (defScope (topS 28)) .none kV23 dc23 pm23 an23 cd23 ct23), sl23⟩) (c23 : PySem.W.codeIn K cd23 "is_log_form" = true) (k23 : PySem.W.keepIn K (.ref f23) = true)
    (a24 : PySem.W.nsIn K mainGlobals "is_led" = some (some (.ref f24))) (l24 : K.lookup f24 = some ⟨oc24, od24, .func (PySem.W.fnOf "is_led" "is_led" (defArgs (topS 29)) (defBody (topS 29)) (defScope (topS 29)) .none kV24 dc24 pm24 an24 cd24 ct24), sl24⟩) (c24 : PySem.W.codeIn K cd24 "is_led" = true) (k24 : PySem.W.keepIn K (.ref f24) = true)
    (a25 : PySem.W.nsIn K mainGlobals "is_state_form" = some (some (.ref f25))) (l25 : K.lookup f25 = some ⟨oc25, od25, .func (PySem.W.fnOf "is_state_form" "is_state_form" (defArgs (topS 30)) (defBody (topS 30)) (defScope (topS 30)) .none kV25 dc25 pm25 an25 cd25 ct25), sl25⟩) (c25 : PySem.W.codeIn K cd25 "is_state_form" = true) (k25 : PySem.W.keepIn K (.ref f25) = true)
    (a26 : PySem.W.nsIn K mainGlobals "is_machine_form" = some (some (.ref f26))) (l26 : K.lookup f26 = some ⟨oc26, od26, .func (PySem.W.fnOf "is_machine_form" "is_machine_form" (defArgs (topS 31)) (defBody (topS 31)) (defScope (topS 31)) .none kV26 dc26 pm26 an26 cd26 ct26), sl26⟩) (c26 : PySem.W.codeIn K cd26 "is_machine_form" = true) (k26 : PySem.W.keepIn K (.ref f26) = true)
    (a27 : PySem.W.nsIn K mainGlobals "_law_is_log" = some (some (.ref f27))) (l27 : K.lookup f27 = some ⟨oc27, od27, .func (PySem.W.fnOf "_law_is_log" "_law_is_log" (defArgs (topS 41)) (defBody (topS 41)) (defScope (topS 41)) .none kV27 dc27 pm27 an27 cd27 ct27), sl27⟩) (c27 : PySem.W.codeIn K cd27 "_law_is_log" = true) (k27 : PySem.W.keepIn K (.ref f27) = true)
    (a28 : PySem.W.nsIn K mainGlobals "_law_is_machine" = some (some (.ref f28))) (l28 : K.lookup f28 = some ⟨oc28, od28, .func (PySem.W.fnOf "_law_is_machine" "_law_is_machine" (defArgs (topS 42)) (defBody (topS 42)) (defScope (topS 42)) .none kV28 dc28 pm28 an28 cd28 ct28), sl28⟩) (c28 : PySem.W.codeIn K cd28 "_law_is_machine" = true) (k28 : PySem.W.keepIn K (.ref f28) = true)
    (a29 : PySem.W.nsIn K mainGlobals "law" = some (some (.ref f29))) (l29 : K.lookup f29 = some ⟨oc29, od29, .func (PySem.W.fnOf "law" "law" (defArgs (topS 47)) (defBody (topS 47)) (defScope (topS 47)) .none kV29 dc29 pm29 an29 cd29 ct29), sl29⟩) (c29 : PySem.W.codeIn K cd29 "law" = true) (k29 : PySem.W.keepIn K (.ref f29) = true)
    (ac_DIGITS : PySem.W.nsIn K mainGlobals "DIGITS" = some (some u_DIGITS)) (hc_DIGITS : atomD u_DIGITS = some c_DIGITS)
    (ac_LETTERS : PySem.W.nsIn K mainGlobals "LETTERS" = some (some u_LETTERS)) (hc_LETTERS : atomD u_LETTERS = some c_LETTERS)
    (ac_MANY : PySem.W.nsIn K mainGlobals "MANY" = some (some (.ref b_MANY))) (lc_MANY : K.lookup b_MANY = some o_MANY) (hc_MANY : (match o_MANY.cls, o_MANY.data with | .type t, .seq its _ => decide (t = "tuple" ∧ its.size ≤ 1000) | _, _ => false) = true) (hd_MANY : (match o_MANY.data with | .seq its _ => atomsD its.toList | _ => none) = some [.str "row", .str "one", .str "beside"])
    (ac_MOST_DEEP : PySem.W.nsIn K mainGlobals "MOST_DEEP" = some (some u_MOST_DEEP)) (hc_MOST_DEEP : atomD u_MOST_DEEP = some c_MOST_DEEP)
    (ac_MOST_LETTERS : PySem.W.nsIn K mainGlobals "MOST_LETTERS" = some (some u_MOST_LETTERS)) (hc_MOST_LETTERS : atomD u_MOST_LETTERS = some c_MOST_LETTERS)
    (ac_MOST_NAMES : PySem.W.nsIn K mainGlobals "MOST_NAMES" = some (some u_MOST_NAMES)) (hc_MOST_NAMES : atomD u_MOST_NAMES = some c_MOST_NAMES)
    (ac_RESERVED : PySem.W.nsIn K mainGlobals "RESERVED" = some (some (.ref b_RESERVED))) (lc_RESERVED : K.lookup b_RESERVED = some o_RESERVED) (hc_RESERVED : (match o_RESERVED.cls, o_RESERVED.data with | .type t, .seq its _ => decide (t = "tuple" ∧ its.size ≤ 1000) | _, _ => false) = true) (hd_RESERVED : (match o_RESERVED.data with | .seq its _ => atomsD its.toList | _ => none) = some [.str "again", .str "beside", .str "case", .str "end", .str "log", .str "of", .str "one", .str "quiet", .str "row", .str "times", .str "tree", .str "work"])
    (z_abs : PySem.W.nsIn K mainGlobals "abs" = some none)
    (z_all : PySem.W.nsIn K mainGlobals "all" = some none)
    (z_bool : PySem.W.nsIn K mainGlobals "bool" = some none)
    (z_int : PySem.W.nsIn K mainGlobals "int" = some none)
    (z_isinstance : PySem.W.nsIn K mainGlobals "isinstance" = some none)
    (z_len : PySem.W.nsIn K mainGlobals "len" = some none)
    (z_range : PySem.W.nsIn K mainGlobals "range" = some none)
    (z_repr : PySem.W.nsIn K mainGlobals "repr" = some none)
    (z_str : PySem.W.nsIn K mainGlobals "str" = some none)
    (z_tuple : PySem.W.nsIn K mainGlobals "tuple" = some none)
    (z_zip : PySem.W.nsIn K mainGlobals "zip" = some none) : Mo K mg where
  d__law_bag := defG_mk X G a0 l0 c0 k0 fun _ _ _ _ _ _ us hl => match us, hl with | [_], _ => rfl
  d__law_take := defG_mk X G a1 l1 c1 k1 fun _ _ _ _ _ _ us hl => match us, hl with | [_, _], _ => rfl
  d__law_some := defG_mk X G a2 l2 c2 k2 fun _ _ _ _ _ _ us hl => match us, hl with | [_, _], _ => rfl
  d__law_drawn := defG_mk X G a3 l3 c3 k3 fun _ _ _ _ _ _ us hl => match us, hl with | [_], _ => rfl
  d_is_integer := defG_mk X G a4 l4 c4 k4 fun _ _ _ _ _ _ us hl => match us, hl with | [_], _ => rfl
  d_is_count := defG_mk X G a5 l5 c5 k5 fun _ _ _ _ _ _ us hl => match us, hl with | [_], _ => rfl
  d_is_name := defG_mk X G a6 l6 c6 k6 fun _ _ _ _ _ _ us hl => match us, hl with | [_], _ => rfl
  d_is_tuple_of := defG_mk X G a7 l7 c7 k7 fun _ _ _ _ _ _ us hl => match us, hl with | [_, _], _ => rfl
  d_is_case := defG_mk X G a8 l8 c8 k8 fun _ _ _ _ _ _ us hl => match us, hl with | [_], _ => rfl
  d_divisor_of := defG_mk X G a9 l9 c9 k9 fun _ _ _ _ _ _ us hl => match us, hl with | [_, _], _ => rfl
  d_is_fraction := defG_mk X G a10 l10 c10 k10 fun _ _ _ _ _ _ us hl => match us, hl with | [_], _ => rfl
  d_inner_in := defG_mk X G a11 l11 c11 k11 fun _ _ _ _ _ _ us hl => match us, hl with | [_], _ => rfl
  d_is_tree_form := defG_mk X G a12 l12 c12 k12 fun _ _ _ _ _ _ us hl => match us, hl with | [_], _ => rfl
  d__law_int := defG_mk X G a13 l13 c13 k13 fun _ _ _ _ _ _ us hl => match us, hl with | [_], _ => rfl
  d__law_is_name := defG_mk X G a14 l14 c14 k14 fun _ _ _ _ _ _ us hl => match us, hl with | [_], _ => rfl
  d__law_is_row := defG_mk X G a15 l15 c15 k15 fun _ _ _ _ _ _ us hl => match us, hl with | [_, _], _ => rfl
  d__law_alike := defG_mk X G a16 l16 c16 k16 fun _ _ _ _ _ _ us hl => match us, hl with | [_, _], _ => rfl
  d__law_gcd := defG_mk X G a17 l17 c17 k17 fun _ _ _ _ _ _ us hl => match us, hl with | [_, _], _ => rfl
  d__law_is_fraction := defG_mk X G a18 l18 c18 k18 fun _ _ _ _ _ _ us hl => match us, hl with | [_], _ => rfl
  d__law_is_tree := defG_mk X G a19 l19 c19 k19 fun _ _ _ _ _ _ us hl => match us, hl with | [_], _ => rfl
  d_are_rising := defG_mk X G a20 l20 c20 k20 fun _ _ _ _ _ _ us hl => match us, hl with | [_], _ => rfl
  d_is_names := defG_mk X G a21 l21 c21 k21 fun _ _ _ _ _ _ us hl => match us, hl with | [_], _ => rfl
  d_is_counted := defG_mk X G a22 l22 c22 k22 fun _ _ _ _ _ _ us hl => match us, hl with | [_], _ => rfl
  d_is_log_form := defG_mk X G a23 l23 c23 k23 fun _ _ _ _ _ _ us hl => match us, hl with | [_], _ => rfl
  d_is_led := defG_mk X G a24 l24 c24 k24 fun _ _ _ _ _ _ us hl => match us, hl with | [_], _ => rfl
  d_is_state_form := defG_mk X G a25 l25 c25 k25 fun _ _ _ _ _ _ us hl => match us, hl with | [_], _ => rfl
  d_is_machine_form := defG_mk X G a26 l26 c26 k26 fun _ _ _ _ _ _ us hl => match us, hl with | [_], _ => rfl
  d__law_is_log := defG_mk X G a27 l27 c27 k27 fun _ _ _ _ _ _ us hl => match us, hl with | [_], _ => rfl
  d__law_is_machine := defG_mk X G a28 l28 c28 k28 fun _ _ _ _ _ _ us hl => match us, hl with | [_], _ => rfl
  d_law := defG_mk X G a29 l29 c29 k29 fun _ _ _ _ _ _ us hl => match us, hl with | [_], _ => rfl
  c_DIGITS := gv_atom X G ac_DIGITS hc_DIGITS
  c_LETTERS := gv_atom X G ac_LETTERS hc_LETTERS
  c_MANY := gv_tup X G ac_MANY lc_MANY hc_MANY hd_MANY
  c_MOST_DEEP := gv_atom X G ac_MOST_DEEP hc_MOST_DEEP
  c_MOST_LETTERS := gv_atom X G ac_MOST_LETTERS hc_MOST_LETTERS
  c_MOST_NAMES := gv_atom X G ac_MOST_NAMES hc_MOST_NAMES
  c_RESERVED := gv_tup X G ac_RESERVED lc_RESERVED hc_RESERVED hd_RESERVED
  z_abs := PySem.W.mg_none_of X G z_abs
  z_all := PySem.W.mg_none_of X G z_all
  z_bool := PySem.W.mg_none_of X G z_bool
  z_int := PySem.W.mg_none_of X G z_int
  z_isinstance := PySem.W.mg_none_of X G z_isinstance
  z_len := PySem.W.mg_none_of X G z_len
  z_range := PySem.W.mg_none_of X G z_range
  z_repr := PySem.W.mg_none_of X G z_repr
  z_str := PySem.W.mg_none_of X G z_str
  z_tuple := PySem.W.mg_none_of X G z_tuple
  z_zip := PySem.W.mg_none_of X G z_zip

theorem fin {P : Program} {w : World} {K : PySem.W.Frag} {mg : Str → Option Value} {fa : Addr} (T : Mo K mg) (hmg : mg "law" = some (.ref fa)) (E : ∀ base : Heap, K.In base → base.Ns mainGlobals mg → CalG P w K mg base 20 "_law_errors" 0 f__law_errors) :
    ∃ fd : FuncData, (∀ (s : Shared) (u : Value), BindsTo s fd ⟨[u], []⟩ [("script", u)]) ∧ ∀ base : Heap, K.In base → base.Ns mainGlobals mg → FnG P w K mg base 21 fa fd ["script"] (spOf ⟨K, mg⟩ 1 f_law) := by
  obtain ⟨f, fd, F, g, b⟩ := T.d_law
  have e := hmg.symm.trans g
  cases e
  have F' := F
  obtain ⟨oc, od, kV, doc, pm, an, cdv, ct, osl, rfl, lk, hcd⟩ := F.ex
  exact ⟨_, fun s u => .of_eq rfl, fun base h1 h2 => fng_law T (E base h1 h2) F'⟩

/-! ### the classes -/
def memS (i j : Nat) : Stmt := match topS i with
  | .ClassDef _ _ _ body _ _ _ _ _ _ _ => body.getD j (.Pass ⟨0, 0, 0, 0⟩)
  | _ => .Pass ⟨0, 0, 0, 0⟩
abbrev nfS (i : Nat) (qual : Str) (cc cda : Addr) : NdefX.NF := ⟨"__init__", qual, defArgs (memS i 0), defBody (memS i 0), defScope (memS i 0), [(clsS, cc)], cda⟩
section
variable {K : PySem.W.Frag} {mg : Str → Option Value} {h : Heap} {x : Str} {C TE fc : Addr}
theorem cl_mk {o : Obj} {tk : Tok} (X : K.In h) (G : h.Ns mainGlobals mg) (a : PySem.W.nsIn K mainGlobals x = some (some (.ref C))) (h1 : PySem.W.findIn K (.ref C) "__getattribute__" = some (some (.builtin "BaseException.__getattribute__"))) (h2 : PySem.W.findIn K (.ref C) "__getattr__" = some none)
    (h3 : PySem.W.subIn K (.ref C) (.type "BaseException") = some true) (h4 : PySem.W.hasDictIn K C = true) (h5 : PySem.W.findIn K (.ref C) "__class__" = some (some (.builtin "object.__class__"))) (h6 : PySem.W.specialIn K (.builtin "object.__class__") "__get__" = some (some (.builtin "getset_descriptor.__get__")))
    (h7 : PySem.W.takesIn K (.builtin "object.__class__") = some true) (h8 : PySem.W.mroIn K C (.type "object") = some true) (h9 : PySem.W.typeIn K (.ref C) = some (.type "type")) (h10 : K.lookup C = some o) (h11 : (o.slots[2]?).join = some (.str x tk)) (h12 : PySem.W.nsIn K cStatics "thirdparty.any" = some none)
    (h13 : PySem.W.findCls K (.ref C) (.type "type") "__name__" = some (.get (.builtin "getset_descriptor.__get__") (.builtin "type.__name__") (.ref C) (.type "type"))) (h14 : PySem.W.findIn K (.ref C) "class_name" = some (some (.ref fc))) (h15 : PySem.W.isFn K (.ref fc) = true)
    (h16 : PySem.W.kitOne K (.ref C) (.ref TE) = some true) (h17 : PySem.W.kitOne K (.ref C) (.type "ValueError") = some true) : Cl K mg x C TE fc :=
  ⟨PySem.W.mg_of X G a, ⟨h1, h2, h3, h4⟩, ⟨h1, h2, h3, h4, h5, h6, h7, h8⟩, ⟨h9, ⟨o, tk, h10, h11⟩, h12, h13⟩, ⟨h1, h2, h14, h15⟩, h16, h17⟩
theorem ini_mk {P : Program} {i : Nat} {qual : Str} {f cc cda N : Addr} {nm q file : Str} {bs bm : List Value} {sn : List Str} {sub : List Value} {ab : Bool} {col : Option Bool} {dd cdd cld od : Option Addr} {k0 k1 k2 k3 k5 : Option Value} {oc ccl cl doc pm ct : Value} {osl ccs csl : Array (Option Value)} {vs : Array Value} {tf : Tok} {cd : ClassData} {ps : List Str}
    (X : K.In h) (G : h.Ns mainGlobals mg)
    (h1 : K.lookup C = some (excClassObj nm q C N bs bm true sn sub ab col dd k0 k1 k2 k3 k5 "ValueError.__new__")) (h2 : PySem.HandSPX.refsVE bm = true) (h3 : PySem.W.findIn K (.ref C) "__setattr__" = some (some (.builtin "object.__setattr__"))) (h4 : PySem.W.subIn K (.ref C) (.type "BaseException") = some true)
    (h5 : PySem.W.typeIn K (.ref C) = some (.type "type")) (h6 : PySem.W.keepIn K (.ref C) = true) (h7 : K.lookup f = some ⟨oc, od, .func ((nfS i qual cc cda).fd doc pm ct), osl⟩) (h8 : PySem.W.codeIn K (.ref cda) qual = true)
    (S : NdefX.nscB (ps ++ [clsS]) ps [clsS] (defScope (memS i 0)) = true) (h9 : (defScope (memS i 0)).names.lookup ("super" : Str) = some .globalImplicit) (h10 : ∃ ar qs, ((defArgs (memS i 0)).posonlyargs ++ (defArgs (memS i 0)).args).head? = some ar ∧ ps = ar.arg :: qs)
    (h11 : K.lookup cda = some ⟨ccl, cdd, .fields vs, ccs⟩) (h12 : vs[2]? = some (.str file tf)) (h13 : ((P.main.file : Str) == file) = true) (h14 : (P.main.scope.names.lookup ("super" : Str)).isSome = false) (h15 : K.lookup cc = some ⟨cl, cld, .cell (some (.ref C)), csl⟩) (h16 : PySem.W.clsIn K C = some cd)
    (h17 : PySem.W.mroIn K C (.ref C) = some true) (h18 : PySem.W.nsIn K mainGlobals "super" = some none) (h19 : PySem.W.ks_superIn K C C "__init__" = some (some (.builtin "ValueError.__init__"))) (h20 : PySem.W.subIn K (.ref C) (.type "ValueError") = some true) (h21 : PySem.W.nsIn K cStatics "thirdparty.any" = some none)
    (h22 : PySem.W.findIn K (.ref C) "__init__" = some (some (.ref f))) (h23 : PySem.W.typeIn K (.ref f) = some (.type "function"))
    (b : ∀ us : List Value, us.length = ps.length → bindArgs ((nfS i qual cc cda).fd doc pm ct) ⟨us, []⟩ = pure (ps.zip us)) : IniC P K C f (nfS i qual cc cda) doc pm ct ps where
  Z := ⟨⟨⟨nm, q, N, bs, bm, sn, sub, ab, col, dd, k0, k1, k2, k3, k5, h1, h2⟩, h3, h4, h5, h6⟩, ⟨oc, od, osl, h7⟩, h8, NdefX.nscope_by S, h9, h10, ⟨ccl, cdd, vs, ccs, file, tf, h11, h12, h13⟩, h14, ⟨cc, cl, cld, csl, rfl, h15⟩, ⟨cd, h16⟩, h17, h18, h19, h20, h21⟩
  iC := h22
  tI := h23
  b := .all b
end
theorem fn_class_name {P : Program} {w : World} {K : PySem.W.Frag} {mg : Str → Option Value} {base : Heap} {f : Addr} {fd : FuncData} (F : Fun K "class_name" "TreeError.class_name" (memS 1 0) f fd) : FnOk P w K mg base (L2.CX P w) 1 f fd ["self"] (spCN K) := by
  refine F.okX (N := ["self"]) ⟨rfl, rfl, rfl, by decide +kernel, rfl, by decide +kernel, by decide +kernel⟩ (fun vs H Q E h => ?_) fun cdv A outer s H vs Q E hr h => ⟨_, pss_one (ps_ret (pe_joined1 (pe_fmt (pe_cname (pe_cls (pv 0)))))), ?_⟩
  · obtain ⟨_, _, _, _, rfl, _⟩ := h
    rfl
  · obtain ⟨a, C, fs, nm, rfl, ea, T, N, hz, q⟩ := h
    exact ⟨.ref a, rfl, a, C, fs, rfl, ea, T, C, nm, rfl, N, .inl ⟨nm, rfl, hz, q⟩⟩
theorem in_BadTree {P : Program} {w : World} {K : PySem.W.Frag} {mg : Str → Option Value} {base : Heap} {C f cc cda : Addr} {doc pm ct : Value} (I : IniC P K C f (nfS 2 "BadTree.__init__" cc cda) doc pm ct ["self", "place", "fault"]) (mgs : mg "super" = none) (n1 : PySem.W.findIn K (.ref C) "place" = some none) (n2 : PySem.W.findIn K (.ref C) "fault" = some none) : In2 P w K mg base C "place" "fault" :=
  ⟨f, _, doc, pm, ct, _, I, init2 I.Z mgs n1 n2 rfl (by decide) (by decide) (by decide) (by decide) (fun _ => rfl) (fun _ => rfl) (fun _ => rfl) (fun _ => rfl) (fun _ => rfl) (fun _ => rfl) ⟨_, fun _ => rfl⟩, n1, n2⟩
theorem in_BadText {P : Program} {w : World} {K : PySem.W.Frag} {mg : Str → Option Value} {base : Heap} {C f cc cda : Addr} {doc pm ct : Value} (I : IniC P K C f (nfS 3 "BadText.__init__" cc cda) doc pm ct ["self", "line", "column"]) (mgs : mg "super" = none) (n1 : PySem.W.findIn K (.ref C) "line" = some none) (n2 : PySem.W.findIn K (.ref C) "column" = some none) : In2 P w K mg base C "line" "column" :=
  ⟨f, _, doc, pm, ct, _, I, init2 I.Z mgs n1 n2 rfl (by decide) (by decide) (by decide) (by decide) (fun _ => rfl) (fun _ => rfl) (fun _ => rfl) (fun _ => rfl) (fun _ => rfl) (fun _ => rfl) ⟨_, fun _ => rfl⟩, n1, n2⟩
theorem in_TooLarge {P : Program} {w : World} {K : PySem.W.Frag} {mg : Str → Option Value} {base : Heap} {C f cc cda : Addr} {doc pm ct : Value} (I : IniC P K C f (nfS 5 "TooLarge.__init__" cc cda) doc pm ct ["self", "what", "limit"]) (mgs : mg "super" = none) (n1 : PySem.W.findIn K (.ref C) "what" = some none) (n2 : PySem.W.findIn K (.ref C) "limit" = some none) : In2 P w K mg base C "what" "limit" :=
  ⟨f, _, doc, pm, ct, _, I, init2 I.Z mgs n1 n2 rfl (by decide) (by decide) (by decide) (by decide) (fun _ => rfl) (fun _ => rfl) (fun _ => rfl) (fun _ => rfl) (fun _ => rfl) (fun _ => rfl) ⟨_, fun _ => rfl⟩, n1, n2⟩
theorem in_NoCommand {P : Program} {w : World} {K : PySem.W.Frag} {mg : Str → Option Value} {base : Heap} {C f cc cda : Addr} {doc pm ct : Value} (I : IniC P K C f (nfS 7 "NoCommand.__init__" cc cda) doc pm ct ["self", "line"]) (mgs : mg "super" = none) (n1 : PySem.W.findIn K (.ref C) "line" = some none) : In1 P w K mg base C "line" :=
  ⟨f, _, doc, pm, ct, _, I, init1 (q6 := ⟨0, 0, 0, 0⟩) (r5 := ⟨0, 0, 0, 0⟩) (r6 := ⟨0, 0, 0, 0⟩) (r7 := ⟨0, 0, 0, 0⟩) (r8 := ⟨0, 0, 0, 0⟩) I.Z mgs n1 rfl (by decide) (by decide) (fun _ => rfl) (fun _ => rfl) (fun _ => rfl) (fun _ => rfl) ⟨_, fun _ => rfl⟩, n1⟩
theorem fin2 {P : Program} {w : World} {K : PySem.W.Frag} {mg : Str → Option Value} {h : Heap} {fa TE fc C1 C2 C3 C4 C5 C6 : Addr} {od an : Option Addr} {osl : Array (Option Value)} {oc kV dc pm cd ct : Value} (X : K.In h) (G : h.Ns mainGlobals mg) (hmg : mg "law" = some (.ref fa))
    (aT : PySem.W.nsIn K mainGlobals "TreeError" = some (some (.ref TE))) (zV : PySem.W.nsIn K mainGlobals "ValueError" = some none) (zs : PySem.W.nsIn K mainGlobals "super" = some none) (T : Mo K mg) (D : DefG K mg "_law_errors" (topS 46) [])
    (c1 : Cl K mg "BadTree" C1 TE fc) (c2 : Cl K mg "BadText" C2 TE fc) (c3 : Cl K mg "TooLarge" C3 TE fc) (c4 : Cl K mg "NoCommand" C4 TE fc) (c5 : Cl K mg "Nothing" C5 TE fc) (c6 : Cl K mg "Unlike" C6 TE fc)
    (i1 : ∃ f cc cda doc pm ct, IniC P K C1 f (nfS 2 "BadTree.__init__" cc cda) doc pm ct ["self", "place", "fault"]) (i2 : ∃ f cc cda doc pm ct, IniC P K C2 f (nfS 3 "BadText.__init__" cc cda) doc pm ct ["self", "line", "column"])
    (i3 : ∃ f cc cda doc pm ct, IniC P K C3 f (nfS 5 "TooLarge.__init__" cc cda) doc pm ct ["self", "what", "limit"]) (i4 : ∃ f cc cda doc pm ct, IniC P K C4 f (nfS 7 "NoCommand.__init__" cc cda) doc pm ct ["self", "line"])
    (n1 : PySem.W.findIn K (.ref C1) "place" = some none) (n2 : PySem.W.findIn K (.ref C1) "fault" = some none) (n3 : PySem.W.findIn K (.ref C2) "line" = some none) (n4 : PySem.W.findIn K (.ref C2) "column" = some none) (n5 : PySem.W.findIn K (.ref C3) "what" = some none) (n6 : PySem.W.findIn K (.ref C3) "limit" = some none) (n7 : PySem.W.findIn K (.ref C4) "line" = some none)
    (x5 : PySem.W.excIn K C5 [Value.type "ValueError", Value.type "Exception", Value.type "BaseException", Value.type "object"] "ValueError.__new__" = true) (x6 : PySem.W.excIn K C6 [Value.type "ValueError", Value.type "Exception", Value.type "BaseException", Value.type "object"] "ValueError.__new__" = true)
    (k5 : PySem.W.keepIn K (.ref C5) = true) (k6 : PySem.W.keepIn K (.ref C6) = true) (lF : K.lookup fc = some ⟨oc, od, .func (PySem.W.fnOf "class_name" "TreeError.class_name" (defArgs (memS 1 0)) (defBody (memS 1 0)) (defScope (memS 1 0)) .none kV dc pm an cd ct), osl⟩) (cF : PySem.W.codeIn K cd "TreeError.class_name" = true) (kF : PySem.W.keepIn K (.ref fc) = true) :
    ∃ fd : FuncData, (∀ (s : Shared) (u : Value), BindsTo s fd ⟨[u], []⟩ [("script", u)]) ∧ ∀ base : Heap, K.In base → base.Ns mainGlobals mg → FnG P w K mg base 21 fa fd ["script"] (spOf ⟨K, mg⟩ 1 f_law) := by
  refine fin T hmg fun base _ _ => ?_
  have ms := PySem.W.mg_none_of X G zs
  have FC := fun_mk (st := memS 1 0) lF cF kF
  obtain ⟨f1, cc1, cda1, d1, pm1, ct1, i1⟩ := i1
  obtain ⟨f2, cc2, cda2, d2, pm2, ct2, i2⟩ := i2
  obtain ⟨f3, cc3, cda3, d3, pm3, ct3, i3⟩ := i3
  obtain ⟨f4, cc4, cda4, d4, pm4, ct4, i4⟩ := i4
  exact cal_errors T D c1 c2 c3 c4 c5 c6 (in_BadTree i1 ms n1 n2) (in_BadText i2 ms n3 n4) (in_TooLarge i3 ms n5 n6) (in_NoCommand i4 ms n7) x5 x6 k5 k6 (PySem.W.mg_of X G aT) (PySem.W.mg_none_of X G zV) (fn_class_name FC) (FC.binds (ps := ["self"]) fun _ _ _ _ _ _ us hl => match us, hl with | [_], _ => rfl) kF
end Lk00
open PySem PySem.W PyProof.Rows
set_option maxHeartbeats 0 in
theorem PySem.Challenge.cw_casetrees_k00_errors_and_forms_holds : PySem.Challenge.rw_casetrees_k00_errors_and_forms.Holds := by
  refine head ?_
  k_fill
  refine L2.Py.walk_ofG (n := 63) (k := 21) (x := "script") (fm := Lk00.f_law) rfl (by decide) rfl ⟨rfl, by decide, by decide⟩ (fun w h Y => PySem.W.kIn_of Y) ?F Lk00.law_ok
  case F =>
    intro w mg fa h KX G hmg
    replace hmg : mg "law" = some (.ref fa) := hmg
    refine' Lk00.fin2 KX G hmg ?aT ?zV ?zs ?TT ?DD ?q1 ?q2 ?q3 ?q4 ?q5 ?q6 ?w1 ?w2 ?w3 ?w4 ?y1 ?y2 ?y3 ?y4 ?y5 ?y6 ?y7 ?x5 ?x6 ?kk5 ?kk6 ?lF ?cF ?kF
    (case aT => k_is)
    (case zV => k_is)
    (case zs => k_is)
    case TT =>
      refine' Lk00.mo_mk KX G ?a0 ?l0 ?c0 ?k0 ?a1 ?l1 ?c1 ?k1 ?a2 ?l2 ?c2 ?k2 ?a3 ?l3 ?c3 ?k3 ?a4 ?l4 ?c4 ?k4 ?a5 ?l5 ?c5 ?k5 ?a6 ?l6 ?c6 ?k6 ?a7 ?l7 ?c7 ?k7 ?a8 ?l8 ?c8 ?k8 ?a9 ?l9 ?c9 ?k9 ?a10 ?l10 ?c10 ?k10 ?a11 ?l11 ?c11 ?k11 ?a12 ?l12 ?c12 ?k12 ?a13 ?l13 ?c13 ?k13 ?a14 ?l14 ?c14 ?k14 ?a15 ?l15 ?c15 ?k15 ?a16 ?l16 ?c16 ?k16 ?a17 ?l17 ?c17 ?k17 ?a18 ?l18 ?c18 ?k18 ?a19 ?l19 ?c19 ?k19 ?a20 ?l20 ?c20 ?k20 ?a21 ?l21 ?c21 ?k21 ?a22 ?l22 ?c22 ?k22 ?a23 ?l23 ?c23 ?k23 ?a24 ?l24 ?c24 ?k24 ?a25 ?l25 ?c25 ?k25 ?a26 ?l26 ?c26 ?k26 ?a27 ?l27 ?c27 ?k27 ?a28 ?l28 ?c28 ?k28 ?a29 ?l29 ?c29 ?k29 ?ac_DIGITS ?hc_DIGITS ?ac_LETTERS ?hc_LETTERS ?ac_MANY ?lc_MANY ?hc_MANY ?hd_MANY ?ac_MOST_DEEP ?hc_MOST_DEEP ?ac_MOST_LETTERS ?hc_MOST_LETTERS ?ac_MOST_NAMES ?hc_MOST_NAMES ?ac_RESERVED ?lc_RESERVED ?hc_RESERVED ?hd_RESERVED ?z_abs ?z_all ?z_bool ?z_int ?z_isinstance ?z_len ?z_range ?z_repr ?z_str ?z_tuple ?z_zip
      (case a0 => k_is)
      (case l0 => k_is)
      (case c0 => k_is)
      (case k0 => k_is)
      (case a1 => k_is)
      (case l1 => k_is)
      (case c1 => k_is)
      (case k1 => k_is)
      (case a2 => k_is)
      (case l2 => k_is)
      (case c2 => k_is)
      (case k2 => k_is)
      (case a3 => k_is)
      (case l3 => k_is)
      (case c3 => k_is)
      (case k3 => k_is)
      (case a4 => k_is)
      (case l4 => k_is)
      (case c4 => k_is)
      (case k4 => k_is)
      (case a5 => k_is)
      (case l5 => k_is)
      (case c5 => k_is)
      (case k5 => k_is)
      (case a6 => k_is)
      (case l6 => k_is)
      (case c6 => k_is)
      (case k6 => k_is)
      (case a7 => k_is)
      (case l7 => k_is)
      (case c7 => k_is)
      (case k7 => k_is)
      (case a8 => k_is)
      (case l8 => k_is)
      (case c8 => k_is)
      (case k8 => k_is)
      (case a9 => k_is)
      (case l9 => k_is)
      (case c9 => k_is)
      (case k9 => k_is)
      (case a10 => k_is)
      (case l10 => k_is)
      (case c10 => k_is)
      (case k10 => k_is)
      (case a11 => k_is)
      (case l11 => k_is)
      (case c11 => k_is)
      (case k11 => k_is)
      (case a12 => k_is)
      (case l12 => k_is)
      (case c12 => k_is)
      (case k12 => k_is)
      (case a13 => k_is)
      (case l13 => k_is)
      (case c13 => k_is)
      (case k13 => k_is)
      (case a14 => k_is)
      (case l14 => k_is)
      (case c14 => k_is)
      (case k14 => k_is)
      (case a15 => k_is)
      (case l15 => k_is)
      (case c15 => k_is)
      (case k15 => k_is)
      (case a16 => k_is)
      (case l16 => k_is)
      (case c16 => k_is)
      (case k16 => k_is)
      (case a17 => k_is)
      (case l17 => k_is)
      (case c17 => k_is)
      (case k17 => k_is)
      (case a18 => k_is)
      (case l18 => k_is)
      (case c18 => k_is)
      (case k18 => k_is)
      (case a19 => k_is)
      (case l19 => k_is)
      (case c19 => k_is)
      (case k19 => k_is)
      (case a20 => k_is)
      (case l20 => k_is)
      (case c20 => k_is)
      (case k20 => k_is)
      (case a21 => k_is)
      (case l21 => k_is)
      (case c21 => k_is)
      (case k21 => k_is)
      (case a22 => k_is)
      (case l22 => k_is)
      (case c22 => k_is)
      (case k22 => k_is)
      (case a23 => k_is)
      (case l23 => k_is)
      (case c23 => k_is)
      (case k23 => k_is)
      (case a24 => k_is)
      (case l24 => k_is)
      (case c24 => k_is)
      (case k24 => k_is)
      (case a25 => k_is)
      (case l25 => k_is)
      (case c25 => k_is)
      (case k25 => k_is)
      (case a26 => k_is)
      (case l26 => k_is)
      (case c26 => k_is)
      (case k26 => k_is)
      (case a27 => k_is)
      (case l27 => k_is)
      (case c27 => k_is)
      (case k27 => k_is)
      (case a28 => k_is)
      (case l28 => k_is)
      (case c28 => k_is)
      (case k28 => k_is)
      (case a29 => k_is)
      (case l29 => k_is)
      (case c29 => k_is)
      (case k29 => k_is)
      (case ac_DIGITS => k_is)
      (case hc_DIGITS => rfl)
      (case ac_LETTERS => k_is)
      (case hc_LETTERS => rfl)
      (case ac_MANY => k_is)
      (case lc_MANY => k_is)
      (case hc_MANY => rfl)
      (case hd_MANY => rfl)
      (case ac_MOST_DEEP => k_is)
      (case hc_MOST_DEEP => rfl)
      (case ac_MOST_LETTERS => k_is)
      (case hc_MOST_LETTERS => rfl)
      (case ac_MOST_NAMES => k_is)
      (case hc_MOST_NAMES => rfl)
      (case ac_RESERVED => k_is)
      (case lc_RESERVED => k_is)
      (case hc_RESERVED => rfl)
      (case hd_RESERVED => rfl)
      (case z_abs => k_is)
      (case z_all => k_is)
      (case z_bool => k_is)
      (case z_int => k_is)
      (case z_isinstance => k_is)
      (case z_len => k_is)
      (case z_range => k_is)
      (case z_repr => k_is)
      (case z_str => k_is)
      (case z_tuple => k_is)
      (case z_zip => k_is)
    case DD =>
      refine' L2.Py.defG_mk KX G ?a ?l ?c ?k fun _ _ _ _ _ _ us hl => match us, hl with | [], _ => rfl
      (case a => k_is)
      (case l => k_is)
      (case c => k_is)
      (case k => k_is)
    case q1 =>
      refine' Lk00.cl_mk KX G ?a ?h1 ?h2 ?h3 ?h4 ?h5 ?h6 ?h7 ?h8 ?h9 ?h10 ?h11 ?h12 ?h13 ?h14 ?h15 ?h16 ?h17
      (case a => k_is)
      (case h1 => k_is)
      (case h2 => k_is)
      (case h3 => k_is)
      (case h4 => k_is)
      (case h5 => k_is)
      (case h6 => k_is)
      (case h7 => k_is)
      (case h8 => k_is)
      (case h9 => k_is)
      (case h10 => k_is)
      (case h11 => rfl)
      (case h12 => k_is)
      (case h13 => k_is)
      (case h14 => k_is)
      (case h15 => k_is)
      (case h16 => kit_is)
      (case h17 => kit_is)
    case q2 =>
      refine' Lk00.cl_mk KX G ?a ?h1 ?h2 ?h3 ?h4 ?h5 ?h6 ?h7 ?h8 ?h9 ?h10 ?h11 ?h12 ?h13 ?h14 ?h15 ?h16 ?h17
      (case a => k_is)
      (case h1 => k_is)
      (case h2 => k_is)
      (case h3 => k_is)
      (case h4 => k_is)
      (case h5 => k_is)
      (case h6 => k_is)
      (case h7 => k_is)
      (case h8 => k_is)
      (case h9 => k_is)
      (case h10 => k_is)
      (case h11 => rfl)
      (case h12 => k_is)
      (case h13 => k_is)
      (case h14 => k_is)
      (case h15 => k_is)
      (case h16 => kit_is)
      (case h17 => kit_is)
    case q3 =>
      refine' Lk00.cl_mk KX G ?a ?h1 ?h2 ?h3 ?h4 ?h5 ?h6 ?h7 ?h8 ?h9 ?h10 ?h11 ?h12 ?h13 ?h14 ?h15 ?h16 ?h17
      (case a => k_is)
      (case h1 => k_is)
      (case h2 => k_is)
      (case h3 => k_is)
      (case h4 => k_is)
      (case h5 => k_is)
      (case h6 => k_is)
      (case h7 => k_is)
      (case h8 => k_is)
      (case h9 => k_is)
      (case h10 => k_is)
      (case h11 => rfl)
      (case h12 => k_is)
      (case h13 => k_is)
      (case h14 => k_is)
      (case h15 => k_is)
      (case h16 => kit_is)
      (case h17 => kit_is)
    case q4 =>
      refine' Lk00.cl_mk KX G ?a ?h1 ?h2 ?h3 ?h4 ?h5 ?h6 ?h7 ?h8 ?h9 ?h10 ?h11 ?h12 ?h13 ?h14 ?h15 ?h16 ?h17
      (case a => k_is)
      (case h1 => k_is)
      (case h2 => k_is)
      (case h3 => k_is)
      (case h4 => k_is)
      (case h5 => k_is)
      (case h6 => k_is)
      (case h7 => k_is)
      (case h8 => k_is)
      (case h9 => k_is)
      (case h10 => k_is)
      (case h11 => rfl)
      (case h12 => k_is)
      (case h13 => k_is)
      (case h14 => k_is)
      (case h15 => k_is)
      (case h16 => kit_is)
      (case h17 => kit_is)
    case q5 =>
      refine' Lk00.cl_mk KX G ?a ?h1 ?h2 ?h3 ?h4 ?h5 ?h6 ?h7 ?h8 ?h9 ?h10 ?h11 ?h12 ?h13 ?h14 ?h15 ?h16 ?h17
      (case a => k_is)
      (case h1 => k_is)
      (case h2 => k_is)
      (case h3 => k_is)
      (case h4 => k_is)
      (case h5 => k_is)
      (case h6 => k_is)
      (case h7 => k_is)
      (case h8 => k_is)
      (case h9 => k_is)
      (case h10 => k_is)
      (case h11 => rfl)
      (case h12 => k_is)
      (case h13 => k_is)
      (case h14 => k_is)
      (case h15 => k_is)
      (case h16 => kit_is)
      (case h17 => kit_is)
    case q6 =>
      refine' Lk00.cl_mk KX G ?a ?h1 ?h2 ?h3 ?h4 ?h5 ?h6 ?h7 ?h8 ?h9 ?h10 ?h11 ?h12 ?h13 ?h14 ?h15 ?h16 ?h17
      (case a => k_is)
      (case h1 => k_is)
      (case h2 => k_is)
      (case h3 => k_is)
      (case h4 => k_is)
      (case h5 => k_is)
      (case h6 => k_is)
      (case h7 => k_is)
      (case h8 => k_is)
      (case h9 => k_is)
      (case h10 => k_is)
      (case h11 => rfl)
      (case h12 => k_is)
      (case h13 => k_is)
      (case h14 => k_is)
      (case h15 => k_is)
      (case h16 => kit_is)
      (case h17 => kit_is)
    case w1 =>
      refine' ⟨_, _, _, _, _, _, Lk00.ini_mk KX G ?h1 ?h2 ?h3 ?h4 ?h5 ?h6 ?h7 ?h8 ?S ?h9 ?h10 ?h11 ?h12 ?h13 ?h14 ?h15 ?h16 ?h17 ?h18 ?h19 ?h20 ?h21 ?h22 ?h23 fun us hl => match us, hl with | [_, _, _], _ => rfl⟩
      (case h1 => k_is)
      (case h2 => rfl)
      (case h3 => k_is)
      (case h4 => k_is)
      (case h5 => k_is)
      (case h6 => k_is)
      (case h22 => k_is)
      (case h23 => k_is)
      (case h7 => k_is)
      (case h8 => k_is)
      (case S => decide +kernel)
      (case h9 => rfl)
      (case h10 => exact ⟨_, _, rfl, rfl⟩)
      (case h11 => k_is)
      (case h12 => rfl)
      (case h13 => first | rfl | decide +kernel)
      (case h14 => rfl)
      (case h15 => k_is)
      (case h16 => k_is)
      (case h17 => k_is)
      (case h18 => k_is)
      (case h19 => ks_is)
      (case h20 => k_is)
      (case h21 => k_is)
    case w2 =>
      refine' ⟨_, _, _, _, _, _, Lk00.ini_mk KX G ?h1 ?h2 ?h3 ?h4 ?h5 ?h6 ?h7 ?h8 ?S ?h9 ?h10 ?h11 ?h12 ?h13 ?h14 ?h15 ?h16 ?h17 ?h18 ?h19 ?h20 ?h21 ?h22 ?h23 fun us hl => match us, hl with | [_, _, _], _ => rfl⟩
      (case h1 => k_is)
      (case h2 => rfl)
      (case h3 => k_is)
      (case h4 => k_is)
      (case h5 => k_is)
      (case h6 => k_is)
      (case h22 => k_is)
      (case h23 => k_is)
      (case h7 => k_is)
      (case h8 => k_is)
      (case S => decide +kernel)
      (case h9 => rfl)
      (case h10 => exact ⟨_, _, rfl, rfl⟩)
      (case h11 => k_is)
      (case h12 => rfl)
      (case h13 => first | rfl | decide +kernel)
      (case h14 => rfl)
      (case h15 => k_is)
      (case h16 => k_is)
      (case h17 => k_is)
      (case h18 => k_is)
      (case h19 => ks_is)
      (case h20 => k_is)
      (case h21 => k_is)
    case w3 =>
      refine' ⟨_, _, _, _, _, _, Lk00.ini_mk KX G ?h1 ?h2 ?h3 ?h4 ?h5 ?h6 ?h7 ?h8 ?S ?h9 ?h10 ?h11 ?h12 ?h13 ?h14 ?h15 ?h16 ?h17 ?h18 ?h19 ?h20 ?h21 ?h22 ?h23 fun us hl => match us, hl with | [_, _, _], _ => rfl⟩
      (case h1 => k_is)
      (case h2 => rfl)
      (case h3 => k_is)
      (case h4 => k_is)
      (case h5 => k_is)
      (case h6 => k_is)
      (case h22 => k_is)
      (case h23 => k_is)
      (case h7 => k_is)
      (case h8 => k_is)
      (case S => decide +kernel)
      (case h9 => rfl)
      (case h10 => exact ⟨_, _, rfl, rfl⟩)
      (case h11 => k_is)
      (case h12 => rfl)
      (case h13 => first | rfl | decide +kernel)
      (case h14 => rfl)
      (case h15 => k_is)
      (case h16 => k_is)
      (case h17 => k_is)
      (case h18 => k_is)
      (case h19 => ks_is)
      (case h20 => k_is)
      (case h21 => k_is)
    case w4 =>
      refine' ⟨_, _, _, _, _, _, Lk00.ini_mk KX G ?h1 ?h2 ?h3 ?h4 ?h5 ?h6 ?h7 ?h8 ?S ?h9 ?h10 ?h11 ?h12 ?h13 ?h14 ?h15 ?h16 ?h17 ?h18 ?h19 ?h20 ?h21 ?h22 ?h23 fun us hl => match us, hl with | [_, _], _ => rfl⟩
      (case h1 => k_is)
      (case h2 => rfl)
      (case h3 => k_is)
      (case h4 => k_is)
      (case h5 => k_is)
      (case h6 => k_is)
      (case h22 => k_is)
      (case h23 => k_is)
      (case h7 => k_is)
      (case h8 => k_is)
      (case S => decide +kernel)
      (case h9 => rfl)
      (case h10 => exact ⟨_, _, rfl, rfl⟩)
      (case h11 => k_is)
      (case h12 => rfl)
      (case h13 => first | rfl | decide +kernel)
      (case h14 => rfl)
      (case h15 => k_is)
      (case h16 => k_is)
      (case h17 => k_is)
      (case h18 => k_is)
      (case h19 => ks_is)
      (case h20 => k_is)
      (case h21 => k_is)
    (case y1 => k_is)
    (case y2 => k_is)
    (case y3 => k_is)
    (case y4 => k_is)
    (case y5 => k_is)
    (case y6 => k_is)
    (case y7 => k_is)
    (case x5 => first | k_exc | kernel_rfl)
    (case x6 => first | k_exc | kernel_rfl)
    (case kk5 => k_is)
    (case kk6 => k_is)
    (case lF => k_is)
    (case cF => k_is)
    (case kF => k_is)
